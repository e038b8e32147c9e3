import Derived.Test.YtddekefihgejoaaGreatDoorZ2
import Derived.Test.YtddekefihgejoaaGreatDoorZ5
import Derived.Test.YtddekefihgejoaaGreatDoorZ7
import Derived.Test.YtddekefihgejoaaGreatDoorZ16
set_option linter.unusedSimpArgs false
set_option linter.unusedVariables false
/- Texts of mine, joined, their names in short: Is1. -/
section
namespace Go.Proofs.YtddekefihgejoaaGreatDoor
open Go.RowKit
open _root_.Go.Proofs.Tryz
theorem CS {l p : List Int} {i : Int} (h0 : 0 ≤ i) (hm : i ≤ lJ l p) : ((l.drop i.toNat).take ((i + p.length).toNat - i.toNat) = p) ↔ wu l p i.toNat = true := by
  unfold lJ at hm
  rw [vk, show (i + p.length).toNat - i.toNat = p.length from by omega]
  constructor
  · intro h; exact ⟨by omega, h⟩
  · intro h; exact h.2
section
variable {w0 w : World} {F : HP} {v1 v2 : Value} {l p : List Int} {i : Int} {back : Bool}
theorem ET (H : aB w0 w F) (hv1 : iG w0 F .i32 v1 l) (hv2 : iG w0 F .i32 v2 p) (RH : l.length ≤ 4611686018427387904) : gG prog 30 #[v1, v2, .int .i64 i, .bool back] w fun v w' => v = .int .i64 (jF l p i back) ∧ aB w0 w' F := by
 have hl9 : l.length ≤ 9223372036854775807 := by have := (hv1 _ H).open; obtain ⟨a, c, e, h3, h4, _⟩ := this; omega
 have hp9 : p.length ≤ 9223372036854775807 := by have := (hv2 _ H).open; obtain ⟨a, c, e, h3, h4, _⟩ := this; omega
 refine iF func30 ntmps30 ?_
 dsimp only [bg, Nat.reduceAdd]
 refine ay (ah (aW rfl (aA (aj (ay (ah (aI rfl (aU (eG (hv1 _ (H)) underlying23 rfl) (aI rfl (aU (eG (hv2 _ (H)) underlying23 rfl) (aU (je rfl rfl (by omega)) (aW rfl (aA (aj (ay (ay (ah (aI rfl (aA (aj (aP rfl (fun h1 => ?_) (fun h1 => ?_))))))))))))))))))))))
 ·(try simp only [aG] at h1)
  have hb : back = true := h1
  have e0 : jF l p i back = kQ l p ((min i (lJ l p)) + 1).toNat := by unfold jF; rw [if_pos hb]
  refine ay (ay (ah (aI rfl (aI rfl (aU (Pm rfl rfl) (aW rfl (aA (aj (bf ?_)))))))))
  refine eP [(0, _), (1, _)] (fun (k : Int) => [(10, .int .i64 k)]) (fun (k : Int) W => (k ≤ lJ l p ∧ jF l p i back = kQ l p (k + 1).toNat) ∧ aB w0 W F) (fun (k : Int) => (k + 1).toNat) (min i (lJ l p)) (Sub.cons rfl (Sub.cons rfl (Sub.nil _))) (Sub.cons rfl (Sub.nil _)) ⟨⟨by omega, e0⟩, H⟩ ?_
  rintro k w1 ⟨⟨hk, e1⟩, HL⟩
  dsimp only [List.cons_append, List.nil_append]
  refine ay (ay (ah (aI rfl (aU (o8 rfl rfl) (aA (aj (aP rfl (fun h2 => ?_) (fun h2 => ?_))))))))
  ·(try simp only [aG] at h2)
   refine aO (aj (ay (bf (ay ?_))))
   have hk0 : 0 ≤ k := by omega
   have hmm : k ≤ (l.length : Int) - p.length := hk
   refine ah (aI rfl (aI rfl (aI rfl (aI rfl (aU (eG (hv2 _ (HL)) underlying23 rfl) (aU (dG rfl rfl (by omega)) (aU (uj (hv1 _ (HL)) underlying23 sizeOf21 rfl rfl rfl (by omega)) (aI rfl (dH rfl func70 (zY _ _ _ _ _ (jc.cut (hv1 _ (HL)) (by omega) (by omega)) (hv2 _ (HL))) ?_)))))))))
   rintro _ w2 ⟨rfl, hD2⟩
   have HD2 := HL.yO hD2
   refine aA (aj (aP rfl (fun h3 => ?_) (fun h3 => ?_)))
   ·(try simp only [aG] at h3)
    have hat := (CS hk0 hk).1 h3
    refine ay (ah (aI rfl (aW rfl (aA (aj (aK (aX (aN (aN (aX (aN (aN (aQ (.inl rfl) results30 rfl ?_)))))))))))))
    exact ⟨by rw [e1, KD hk0 hat], HD2⟩
   ·(try simp only [aG] at h3)
    have hat : ¬ wu l p k.toNat = true := fun c => absurd ((CS hk0 hk).2 c) (by have h9 := h3; simpa using h9)
    refine aO (aH (aj (ah (aI rfl (aU (je rfl rfl (by omega)) (aW rfl (aA ?_)))))))
    refine cO (k - 1) ?_ ?_ ?_ ?_
    ·exact (Sub.cons rfl (Sub.nil _))
    ·exact (Sub.cons rfl (Sub.cons rfl (Sub.nil _)))
    ·(try dsimp only)
     first | done | exact ⟨⟨by omega, by rw [e1, N9 hk0 hat]⟩, HD2⟩
    ·(try dsimp only); omega
  ·(try simp only [aG] at h2)
   refine dK (aV (aV (bD (aj (ay (ah (aW rfl (aA (aj (aK (aN (aQ (.inl rfl) results30 rfl ?_))))))))))))
   exact ⟨by rw [e1, KE (by omega)], HL⟩
 ·(try simp only [aG] at h1)
  have hb : ¬ back = true := by have h9 := h1; rw [h9]; decide
  have e0 : jF l p i back = jB l p (lJ l p - max i 0 + 1).toNat (max i 0).toNat := by unfold jF; rw [if_neg hb]
  refine aO (aj (ay (ay (ah (aI rfl (aU (WZ rfl rfl) (aW rfl (aA (aj (bf ?_))))))))))
  refine eP [(0, _), (1, _), (9, _)] (fun (k : Int) => [(11, .int .i64 k)]) (fun (k : Int) W => (0 ≤ k ∧ jF l p i back = jB l p (lJ l p - k + 1).toNat k.toNat) ∧ aB w0 W F) (fun (k : Int) => (lJ l p - k + 1).toNat) (max i 0) (Sub.cons rfl (Sub.cons rfl (Sub.cons rfl (Sub.nil _)))) (Sub.cons rfl (Sub.nil _)) ⟨⟨by omega, e0⟩, H⟩ ?_
  rintro k w3 ⟨⟨hk0, e1⟩, HL⟩
  dsimp only [List.cons_append, List.nil_append]
  refine ay (ay (ah (aI rfl (aI rfl (aU (qU rfl rfl) (aA (aj (aP rfl (fun h4 => ?_) (fun h4 => ?_)))))))))
  ·(try simp only [aG] at h4)
   refine aO (aj (ay (bf (ay ?_))))
   have hk : k ≤ lJ l p := by unfold lJ; omega
   have hmm : k ≤ (l.length : Int) - p.length := hk
   refine ah (aI rfl (aI rfl (aI rfl (aI rfl (aU (eG (hv2 _ (HL)) underlying23 rfl) (aU (dG rfl rfl (by omega)) (aU (uj (hv1 _ (HL)) underlying23 sizeOf21 rfl rfl rfl (by omega)) (aI rfl (dH rfl func70 (zY _ _ _ _ _ (jc.cut (hv1 _ (HL)) (by omega) (by omega)) (hv2 _ (HL))) ?_)))))))))
   rintro _ w4 ⟨rfl, hD4⟩
   have HD4 := HL.yO hD4
   refine aA (aj (aP rfl (fun h5 => ?_) (fun h5 => ?_)))
   ·(try simp only [aG] at h5)
    have hat := (CS hk0 hk).1 h5
    refine ay (ah (aI rfl (aW rfl (aA (aj (aK (aX (aN (aN (aX (aN (aQ (.inl rfl) results30 rfl ?_))))))))))))
    exact ⟨by rw [e1, IK hk0 hk hat], HD4⟩
   ·(try simp only [aG] at h5)
    have hat : ¬ wu l p k.toNat = true := fun c => absurd ((CS hk0 hk).2 c) (by have h9 := h5; simpa using h9)
    refine aO (aH (aj (ah (aI rfl (aU (dG rfl rfl (by omega)) (aW rfl (aA ?_)))))))
    refine cO (k + 1) ?_ ?_ ?_ ?_
    ·exact (Sub.cons rfl (Sub.nil _))
    ·exact (Sub.cons rfl (Sub.cons rfl (Sub.cons rfl (Sub.nil _))))
    ·(try dsimp only)
     first | done | exact ⟨⟨by omega, by rw [e1, KF hk0 hk hat]⟩, HD4⟩
    ·(try dsimp only); omega
  ·(try simp only [aG] at h4)
   refine dK (aV (aV (bD (aj (ay (ah (aW rfl (aA (aj (aK (aQ (.inl rfl) results30 rfl ?_)))))))))))
   exact ⟨by rw [e1, IL (by unfold lJ; omega)], HL⟩
end
section
variable {w0 w : World} {F : HP} {v v2 : Value} {us : List Value} {ls : List (List Int)} {p : List Int} {place at_ : Int} {back : Bool}
theorem wQ (H : aB w0 w F) (hv : EL w0 F 1 v ls.length us) (he : ∀ k, k < ls.length → iG w0 F .i32 (us.getD k undef) (ls.getD k [])) (hv2 : iG w0 F .i32 v2 p) (hb8 : ls.length ≤ 4611686018427387904) (RH : ∀ k, k < ls.length → (ls.getD k []).length ≤ 4611686018427387904) :
    gG prog 7 #[v, .int .i64 place, .int .i64 at_, v2, .bool back] w fun v w' => v = .tuple #[.int .i64 (fH ls place at_ p back).1, .int .i64 (fH ls place at_ p back).2.1, .bool (fH ls place at_ p back).2.2] ∧ aB w0 w' F := by
  refine iF func7 ntmps7 ?_
  dsimp only [bg, Nat.reduceAdd]
  refine ay (ah (aW rfl (aW rfl (aW rfl (aA (aj ?_))))))
  refine RF ?_
  refine ay (ay (ah (aI rfl (aU (dB rfl rfl) (iM rfl (fun h1 => ?_) (fun h1 => ?_))))))
  · (try simp only [aG] at h1)
    try (exfalso; first | contradiction | omega)
    all_goals
      refine aZ (aZ (aZ (aZ (fK rfl rfl (aI rfl (aZ (aZ (aZ (fK rfl rfl (aA (aj (zM (ay (ah (aW rfl (aW rfl (aW rfl (aA (aj (aK (aN ?_)))))))))))))))))))))
      refine lu ?_
      refine wS (.inl rfl) results7 rfl rfl rfl ?_
      have hbad : fH ls place at_ p back = (0, 0, false) := by unfold fH; rw [if_pos (by omega)]
      exact ⟨by rw [hbad], H⟩
  · (try simp only [aG] at h1)
    try (exfalso; first | contradiction | omega)
    all_goals
      refine aY (aI rfl (aY (aI rfl (aY (aU (eX (hv _ (H)) underlying22 rfl) (aY (aU (o8 rfl rfl) (fC rfl rfl (iM rfl (fun h2 => ?_) (fun h2 => ?_))))))))))
      · (try simp only [aG] at h2)
        try (exfalso; first | contradiction | omega)
        all_goals
          refine aZ (aZ (aZ (fK rfl rfl (aA (aj (zM (ay (ah (aW rfl (aW rfl (aW rfl (aA (aj (aK (aN ?_)))))))))))))))
          refine lu ?_
          refine wS (.inl rfl) results7 rfl rfl rfl ?_
          have hbad : fH ls place at_ p back = (0, 0, false) := by unfold fH; rw [if_pos (by omega)]
          exact ⟨by rw [hbad], H⟩
      · (try simp only [aG] at h2)
        try (exfalso; first | contradiction | omega)
        all_goals
          refine aY (aI rfl (aY (aU (eG (hv2 _ (H)) underlying23 rfl) (aY (aU (gU rfl rfl) (fC rfl rfl (aA (aj (aP rfl (fun h3 => ?_) (fun h3 => ?_))))))))))
          · (try simp only [aG] at h3)
            try (exfalso; first | contradiction | omega)
            all_goals
              refine ay (ah (aW rfl (aW rfl (aW rfl (aA (aj (aK (aN ?_))))))))
              refine lu ?_
              refine wS (.inl rfl) results7 rfl rfl rfl ?_
              have hbad : fH ls place at_ p back = (0, 0, false) := by unfold fH; rw [if_pos (by omega)]
              exact ⟨by rw [hbad], H⟩
          · (try simp only [aG] at h3)
            try (exfalso; first | contradiction | omega)
            all_goals
              have h09 := h3
              have hgood : fH ls place at_ p back = findAt ls place at_ p back place := by unfold fH findAt; rw [if_neg (by omega)]
              refine aO (aj (ay (ah (aW rfl (aA (aj ?_))))))
              refine lT [(0, _), (1, _), (2, _), (3, _), (4, _)] (fun (_ : Unit) => [(13, .int .i64 (if back then -1 else 1))]) (fun (_ : Unit) W => W = w) (Sub.cons rfl (Sub.cons rfl (Sub.cons rfl (Sub.cons rfl (Sub.cons rfl (Sub.nil _)))))) ?_ ?_
              · rintro _ w1 rfl
                dsimp only [List.cons_append, List.nil_append]
                refine lT [(0, _), (1, _), (2, _), (3, _), (4, _)] (fun (_ : Unit) => [(13, .int .i64 (if back then -1 else 1))]) (fun (_ : Unit) W => W = w1) (Sub.cons rfl (Sub.cons rfl (Sub.cons rfl (Sub.cons rfl (Sub.cons rfl (Sub.nil _)))))) ?_ ?_
                · rintro _ w2 rfl
                  dsimp only [List.cons_append, List.nil_append]
                  refine ay (ay (ah (aI rfl (aW rfl (aA (aj (bf ?_)))))))
                  refine eP [(0, _), (1, _), (2, _), (3, _), (4, _), (13, _)] (fun (i : Int) => [(14, .int .i64 i)]) (fun (i : Int) W => ((-1 ≤ i ∧ i ≤ ls.length) ∧ (back = true → i < ls.length) ∧ (¬ back = true → 0 ≤ i) ∧ fH ls place at_ p back = findAt ls place at_ p back i) ∧ aB w0 W F) (fun (i : Int) => if back then (i + 1).toNat else ((ls.length : Int) - i).toNat) (place) (Sub.cons rfl (Sub.cons rfl (Sub.cons rfl (Sub.cons rfl (Sub.cons rfl (Sub.cons rfl (Sub.nil _))))))) (Sub.cons rfl (Sub.nil _)) ⟨⟨by omega, by omega, by omega, hgood⟩, H⟩ ?_
                  rintro i w3 ⟨⟨hi, hbk, hfw, e1⟩, HL⟩
                  dsimp only [List.cons_append, List.nil_append]
                  refine ay (ay (ah (aI rfl (aU (o8 rfl rfl) (iM rfl (fun h4 => ?_) (fun h4 => ?_))))))
                  · (try simp only [aG] at h4)
                    try (exfalso; first | contradiction | omega)
                    all_goals
                      refine aY (aI rfl (aY (aI rfl (aY (aU (eX (hv _ (HL)) underlying22 rfl) (aY (aU (dB rfl rfl) (fK rfl rfl (aA (aj (aP rfl (fun h5 => ?_) (fun h5 => ?_))))))))))))
                      · (try simp only [aG] at h5)
                        try (exfalso; first | contradiction | omega)
                        all_goals
                          refine aO (aj (ay (bf (ay ?_))))
                          have hi0 : 0 ≤ i := by omega
                          have hil : i < ls.length := by omega
                          have acn := RH i.toNat (by omega)
                          have hia : i.toNat < ls.length := by omega
                          refine ah (aW rfl (aA (aj ?_)))
                          refine lT [(0, _), (1, _), (2, _), (3, _), (4, _), (13, _), (14, _), (35, _), (36, _), (37, _), (38, _)] (fun (_ : Unit) => [(15, .int .i64 (if i = place then at_ else if back then ((ls.getD i.toNat []).length : Int) else 0))]) (fun (_ : Unit) W => W = w3) (Sub.cons rfl (Sub.cons rfl (Sub.cons rfl (Sub.cons rfl (Sub.cons rfl (Sub.cons rfl (Sub.cons rfl (Sub.cons rfl (Sub.cons rfl (Sub.cons rfl (Sub.cons rfl (Sub.nil _)))))))))))) ?_ ?_
                          · rintro _ w4 rfl
                            dsimp only [List.cons_append, List.nil_append]
                            refine ay (ah (aI rfl (aI rfl ?_)))
                            obtain ⟨bv, ov, cv, ev⟩ := Rd.kV (hv _ (HL)) (by omega)
                            cases ev
                            refine aU (bY underlying22 sizeOf23 rfl rfl (by omega)) ?_
                            refine aU (dZ (bU underlying23 rfl) rfl (by first | exact Rd.nZ (hv _ (HL)) (by omega) | exact Rd.AV (hv _ (HL)) (by omega) | exact Rd.zX (hv _ (HL)) (by omega))) ?_
                            refine jQ (fun abB V7 => ?_)
                            refine aI rfl (aI rfl (aI rfl (dH rfl func30 (ET HL (fun W HW => (by rw [V7]; exact he _ (by omega) _ (HW))) (fun W HW => hv2 _ (HW)) (by omega)) ?_)))
                            rintro _ w6 ⟨rfl, H6⟩
                            refine aW rfl (aA (aj (ay (ah (aI rfl (aU (o8 rfl rfl) (aA (aj (aP rfl (fun h6 => ?_) (fun h6 => ?_))))))))))
                            · (try simp only [aG] at h6)
                              try (exfalso; first | contradiction | omega)
                              all_goals
                                have hyes : 0 ≤ gY ls place at_ p back i.toNat := by unfold gY; rw [show ((i.toNat : Nat) : Int) = i from by omega]; exact h6
                                refine ay (ah (aI rfl (aI rfl (aW rfl (aW rfl (aW rfl (aA (aj (aK (aX (aN (aN (aX (aN ?_))))))))))))))
                                refine lu ?_
                                refine wS (.inl rfl) results7 rfl rfl rfl ?_
                                exact ⟨by rw [e1, KG hi0 hil hyes]; unfold gY; rw [show ((i.toNat : Nat) : Int) = i from by omega], H6⟩
                            · (try simp only [aG] at h6)
                              try (exfalso; first | contradiction | omega)
                              all_goals
                                have hno : ¬ 0 ≤ gY ls place at_ p back i.toNat := by unfold gY; rw [show ((i.toNat : Nat) : Int) = i from by omega]; have h9 := h6; omega
                                refine aO (aH (aj (ah (aI rfl (aI rfl (aU (dG rfl rfl (by omega)) (aW rfl (aA ?_))))))))
                                refine cO (i + if back then -1 else 1) ?_ ?_ ?_ ?_
                                · exact (Sub.cons rfl (Sub.nil _))
                                · exact (Sub.cons rfl (Sub.cons rfl (Sub.cons rfl (Sub.cons rfl (Sub.cons rfl (Sub.cons rfl (Sub.nil _)))))))
                                · (try dsimp only)
                                  first | done | exact ⟨⟨by cases back <;> simp at * <;> omega, by cases back <;> simp at * <;> omega, by cases back <;> simp at * <;> omega, e1.trans (uq hi0 hil (by first | exact hno | exact wH (by simpa using ‹back = true›) (by omega) (by omega) | exact wI (by simp_all) (by omega) (by omega)))⟩, H6⟩
                                · cases back <;> simp <;> omega
                          · skip
                            refine bf (ay (ah (aI rfl (aI rfl (aU (gU rfl rfl) (iM rfl (fun h7 => ?_) (fun h7 => ?_)))))))
                            · (try simp only [aG] at h7)
                              try (exfalso; first | contradiction | omega)
                              all_goals
                                refine aY (aI rfl (fK rfl rfl (iM rfl (fun h8 => ?_) (fun h8 => ?_))))
                                · (try simp only [aG] at h8)
                                  try (exfalso; first | contradiction | omega)
                                  all_goals
                                    refine aY (aI rfl (aY (aU (dB rfl rfl) (fK rfl rfl (iM rfl (fun h9 => ?_) (fun h9 => ?_))))))
                                    · (try simp only [aG] at h9)
                                      try (exfalso; first | contradiction | omega)
                                      all_goals
                                        refine aZ (aZ (aZ (aZ (bT (bT (aZ (aZ (bT (bT (bT (bT (bT (bT (bT (aZ (fK rfl rfl (aW rfl (aA (aj (zM (dK ?_)))))))))))))))))))))
                                        refine jZ (by decide) ?_
                                        refine aV (bD (aj (ah (aI rfl (aI rfl (aU (dG rfl rfl (by omega)) (aW rfl (aA ?_))))))))
                                        refine cO (i + if back then -1 else 1) ?_ ?_ ?_ ?_
                                        · exact (Sub.cons rfl (Sub.nil _))
                                        · exact (Sub.cons rfl (Sub.cons rfl (Sub.cons rfl (Sub.cons rfl (Sub.cons rfl (Sub.cons rfl (Sub.nil _)))))))
                                        · (try dsimp only)
                                          first | done | exact ⟨⟨by cases back <;> simp at * <;> omega, by cases back <;> simp at * <;> omega, by cases back <;> simp at * <;> omega, e1.trans (uq hi0 hil (by first | exact hno | exact wH (by simpa using ‹back = true›) (by omega) (by omega) | exact wI (by simp_all) (by omega) (by omega)))⟩, HL⟩
                                        · cases back <;> simp <;> omega
                                    · (try simp only [aG] at h9)
                                      try (exfalso; first | contradiction | omega)
                                      all_goals
                                        refine aY (aI rfl (aY (aI rfl (aY (aU (gU rfl rfl) (aY (iM rfl (fun h10 => ?_) (fun h10 => ?_))))))))
                                        · (try simp only [aG] at h10)
                                          try (exfalso; first | contradiction | omega)
                                          all_goals
                                            refine aY (aI rfl (aY (aU (gQ rfl) (aY (fK rfl rfl (aY (iM rfl (fun h11 => ?_) (fun h11 => ?_))))))))
                                            · (try simp only [aG] at h11)
                                              try (exfalso; first | contradiction | omega)
                                              all_goals
                                                refine aY (aI rfl (aY (aI rfl (aY (aI rfl (aY ?_))))))
                                                obtain ⟨bv, ov, cv, ev⟩ := Rd.kV (hv _ (HL)) (by omega)
                                                cases ev
                                                refine aU (bY underlying22 sizeOf23 rfl rfl (by omega)) (aY ?_)
                                                refine aU (dZ (bU underlying23 rfl) rfl (by first | exact Rd.nZ (hv _ (HL)) (by omega) | exact Rd.AV (hv _ (HL)) (by omega) | exact Rd.zX (hv _ (HL)) (by omega))) ?_
                                                refine jQ (fun abC V8 => ?_)
                                                refine aY ?_
                                                refine aU (eG ((by rw [V8]; exact he _ (by omega) _ (HL))) underlying23 rfl) ?_
                                                refine aY (aU (fB rfl rfl) (aY (fK rfl rfl (fC rfl rfl (aW rfl (aA (aj (aP rfl (fun h12 => ?_) (fun h12 => ?_)))))))))
                                                · (try simp only [aG] at h12)
                                                  try (exfalso; first | contradiction | omega)
                                                  all_goals
                                                    refine dK ?_
                                                    refine jZ (by decide) ?_
                                                    refine aV (bD (aj (ah (aI rfl (aI rfl (aU (dG rfl rfl (by omega)) (aW rfl (aA ?_))))))))
                                                    refine cO (i + if back then -1 else 1) ?_ ?_ ?_ ?_
                                                    · exact (Sub.cons rfl (Sub.nil _))
                                                    · exact (Sub.cons rfl (Sub.cons rfl (Sub.cons rfl (Sub.cons rfl (Sub.cons rfl (Sub.cons rfl (Sub.nil _)))))))
                                                    · (try dsimp only)
                                                      first | done | exact ⟨⟨by cases back <;> simp at * <;> omega, by cases back <;> simp at * <;> omega, by cases back <;> simp at * <;> omega, e1.trans (uq hi0 hil (by first | exact hno | exact wH (by simpa using ‹back = true›) (by omega) (by omega) | exact wI (by simp_all) (by omega) (by omega)))⟩, HL⟩
                                                    · cases back <;> simp <;> omega
                                                · (try simp only [aG] at h12)
                                                  try (exfalso; first | contradiction | omega)
                                                  all_goals
                                                    refine ay (ah (aI rfl (aI rfl (aU (gU rfl rfl) (aW rfl (aA (aj (aP rfl (fun h13 => ?_) (fun h13 => ?_)))))))))
                                                    · (try simp only [aG] at h13)
                                                      try (exfalso; first | contradiction | omega)
                                                      all_goals
                                                        refine ah (aI rfl (aW rfl (aA (aH ?_))))
                                                        refine bF (()) ?_ ?_ ?_
                                                        · exact (Sub.dQ rfl (by simp_all) (Sub.nil _))
                                                        · exact (Sub.cons rfl (Sub.cons rfl (Sub.cons rfl (Sub.cons rfl (Sub.cons rfl (Sub.cons rfl (Sub.cons rfl (Sub.cons rfl (Sub.cons rfl (Sub.cons rfl (Sub.cons rfl (Sub.nil _))))))))))))
                                                        · (try dsimp only)
                                                          first | done | exact rfl
                                                    · (try simp only [aG] at h13)
                                                      try (exfalso; first | contradiction | omega)
                                                      all_goals
                                                        refine ay (ah (aI rfl (aW rfl (aA (aj (aP rfl (fun h14 => ?_) (fun h14 => ?_)))))))
                                                        · (try simp only [aG] at h14)
                                                          try (exfalso; first | contradiction | omega)
                                                          all_goals
                                                            refine ah (aI rfl (aI rfl (aU (bY underlying22 sizeOf23 rfl rfl (by omega)) ?_)))
                                                            refine aU (dZ (bU underlying23 rfl) rfl (by first | exact Rd.nZ (hv _ (HL)) (by omega) | exact Rd.AV (hv _ (HL)) (by omega) | exact Rd.zX (hv _ (HL)) (by omega))) ?_
                                                            refine jQ (fun abD V9 => ?_)
                                                            refine aU (eG ((by rw [V9]; exact he _ (by omega) _ (HL))) underlying23 rfl) ?_
                                                            refine aW rfl (aA (aH ?_))
                                                            refine bF (()) ?_ ?_ ?_
                                                            · exact (Sub.dQ rfl (by simp_all) (Sub.nil _))
                                                            · exact (Sub.cons rfl (Sub.cons rfl (Sub.cons rfl (Sub.cons rfl (Sub.cons rfl (Sub.cons rfl (Sub.cons rfl (Sub.cons rfl (Sub.cons rfl (Sub.cons rfl (Sub.cons rfl (Sub.nil _))))))))))))
                                                            · (try dsimp only)
                                                              first | done | exact rfl
                                                        · (try simp only [aG] at h14)
                                                          try (exfalso; first | contradiction | omega)
                                                          all_goals
                                                            refine aO (aH ?_)
                                                            refine bF (()) ?_ ?_ ?_
                                                            · exact (Sub.dQ rfl (by simp_all) (Sub.nil _))
                                                            · exact (Sub.cons rfl (Sub.cons rfl (Sub.cons rfl (Sub.cons rfl (Sub.cons rfl (Sub.cons rfl (Sub.cons rfl (Sub.cons rfl (Sub.cons rfl (Sub.cons rfl (Sub.cons rfl (Sub.nil _))))))))))))
                                                            · (try dsimp only)
                                                              first | done | exact rfl
                                            · (try simp only [aG] at h11)
                                              try (exfalso; first | contradiction | omega)
                                              all_goals
                                                refine aZ (aZ (aZ (aZ (aZ (aZ (aZ (aY (fC rfl rfl (fC rfl rfl (aW rfl (aA (aj (nY (ay (ah (aI rfl (aI rfl (aU (gU rfl rfl) (aW rfl (aA (aj (aP rfl (fun h15 => ?_) (fun h15 => ?_)))))))))))))))))))))))
                                                · (try simp only [aG] at h15)
                                                  try (exfalso; first | contradiction | omega)
                                                  all_goals
                                                    refine ah (aI rfl (aW rfl (aA (aH ?_))))
                                                    refine bF (()) ?_ ?_ ?_
                                                    · exact (Sub.dQ rfl (by simp_all) (Sub.nil _))
                                                    · exact (Sub.cons rfl (Sub.cons rfl (Sub.cons rfl (Sub.cons rfl (Sub.cons rfl (Sub.cons rfl (Sub.cons rfl (Sub.cons rfl (Sub.cons rfl (Sub.cons rfl (Sub.cons rfl (Sub.nil _))))))))))))
                                                    · (try dsimp only)
                                                      first | done | exact rfl
                                                · (try simp only [aG] at h15)
                                                  try (exfalso; first | contradiction | omega)
                                                  all_goals
                                                    refine ay (ah (aI rfl (aW rfl (aA (aj (aP rfl (fun h16 => ?_) (fun h16 => ?_)))))))
                                                    · (try simp only [aG] at h16)
                                                      try (exfalso; first | contradiction | omega)
                                                      all_goals
                                                        refine ah (aI rfl (aI rfl ?_))
                                                        obtain ⟨bv, ov, cv, ev⟩ := Rd.kV (hv _ (HL)) (by omega)
                                                        cases ev
                                                        refine aU (bY underlying22 sizeOf23 rfl rfl (by omega)) ?_
                                                        refine aU (dZ (bU underlying23 rfl) rfl (by first | exact Rd.nZ (hv _ (HL)) (by omega) | exact Rd.AV (hv _ (HL)) (by omega) | exact Rd.zX (hv _ (HL)) (by omega))) ?_
                                                        refine jQ (fun abE Wh => ?_)
                                                        refine aU (eG ((by rw [Wh]; exact he _ (by omega) _ (HL))) underlying23 rfl) ?_
                                                        refine aW rfl (aA (aH ?_))
                                                        refine bF (()) ?_ ?_ ?_
                                                        · exact (Sub.dQ rfl (by simp_all) (Sub.nil _))
                                                        · exact (Sub.cons rfl (Sub.cons rfl (Sub.cons rfl (Sub.cons rfl (Sub.cons rfl (Sub.cons rfl (Sub.cons rfl (Sub.cons rfl (Sub.cons rfl (Sub.cons rfl (Sub.cons rfl (Sub.nil _))))))))))))
                                                        · (try dsimp only)
                                                          first | done | exact rfl
                                                    · (try simp only [aG] at h16)
                                                      try (exfalso; first | contradiction | omega)
                                                      all_goals
                                                        refine aO (aH ?_)
                                                        refine bF (()) ?_ ?_ ?_
                                                        · exact (Sub.dQ rfl (by simp_all) (Sub.nil _))
                                                        · exact (Sub.cons rfl (Sub.cons rfl (Sub.cons rfl (Sub.cons rfl (Sub.cons rfl (Sub.cons rfl (Sub.cons rfl (Sub.cons rfl (Sub.cons rfl (Sub.cons rfl (Sub.cons rfl (Sub.nil _))))))))))))
                                                        · (try dsimp only)
                                                          first | done | exact rfl
                                        · (try simp only [aG] at h10)
                                          try (exfalso; first | contradiction | omega)
                                          all_goals
                                            refine aZ (aZ (aY (fC rfl rfl (aY (aI rfl (aZ (aZ (aZ (aZ (aZ (aZ (aZ (aY (fC rfl rfl (fC rfl rfl (aW rfl (aA (aj (nY (ay (ah (aI rfl (aI rfl (aU (gU rfl rfl) (aW rfl (aA (aj (aP rfl (fun h17 => ?_) (fun h17 => ?_)))))))))))))))))))))))))))))
                                            · (try simp only [aG] at h17)
                                              try (exfalso; first | contradiction | omega)
                                              all_goals
                                                refine ah (aI rfl (aW rfl (aA (aH ?_))))
                                                refine bF (()) ?_ ?_ ?_
                                                · exact (Sub.dQ rfl (by simp_all) (Sub.nil _))
                                                · exact (Sub.cons rfl (Sub.cons rfl (Sub.cons rfl (Sub.cons rfl (Sub.cons rfl (Sub.cons rfl (Sub.cons rfl (Sub.cons rfl (Sub.cons rfl (Sub.cons rfl (Sub.cons rfl (Sub.nil _))))))))))))
                                                · (try dsimp only)
                                                  first | done | exact rfl
                                            · (try simp only [aG] at h17)
                                              try (exfalso; first | contradiction | omega)
                                              all_goals
                                                refine ay (ah (aI rfl (aW rfl (aA (aj (aP rfl (fun h18 => ?_) (fun h18 => ?_)))))))
                                                · (try simp only [aG] at h18)
                                                  try (exfalso; first | contradiction | omega)
                                                  all_goals
                                                    refine ah (aI rfl (aI rfl ?_))
                                                    obtain ⟨bv, ov, cv, ev⟩ := Rd.kV (hv _ (HL)) (by omega)
                                                    cases ev
                                                    refine aU (bY underlying22 sizeOf23 rfl rfl (by omega)) ?_
                                                    refine aU (dZ (bU underlying23 rfl) rfl (by first | exact Rd.nZ (hv _ (HL)) (by omega) | exact Rd.AV (hv _ (HL)) (by omega) | exact Rd.zX (hv _ (HL)) (by omega))) ?_
                                                    refine jQ (fun aaQ Ud => ?_)
                                                    refine aU (eG ((by rw [Ud]; exact he _ (by omega) _ (HL))) underlying23 rfl) ?_
                                                    refine aW rfl (aA (aH ?_))
                                                    refine bF (()) ?_ ?_ ?_
                                                    · exact (Sub.dQ rfl (by simp_all) (Sub.nil _))
                                                    · exact (Sub.cons rfl (Sub.cons rfl (Sub.cons rfl (Sub.cons rfl (Sub.cons rfl (Sub.cons rfl (Sub.cons rfl (Sub.cons rfl (Sub.cons rfl (Sub.cons rfl (Sub.cons rfl (Sub.nil _))))))))))))
                                                    · (try dsimp only)
                                                      first | done | exact rfl
                                                · (try simp only [aG] at h18)
                                                  try (exfalso; first | contradiction | omega)
                                                  all_goals
                                                    refine aO (aH ?_)
                                                    refine bF (()) ?_ ?_ ?_
                                                    · exact (Sub.dQ rfl (by simp_all) (Sub.nil _))
                                                    · exact (Sub.cons rfl (Sub.cons rfl (Sub.cons rfl (Sub.cons rfl (Sub.cons rfl (Sub.cons rfl (Sub.cons rfl (Sub.cons rfl (Sub.cons rfl (Sub.cons rfl (Sub.cons rfl (Sub.nil _))))))))))))
                                                    · (try dsimp only)
                                                      first | done | exact rfl
                                · (try simp only [aG] at h8)
                                  try (exfalso; first | contradiction | omega)
                                  all_goals
                                    refine aZ (aZ (fC rfl rfl (aI rfl (aY (aI rfl (aY (aI rfl (aY (aU (gU rfl rfl) (aY (iM rfl (fun h19 => ?_) (fun h19 => ?_))))))))))))
                                    · (try simp only [aG] at h19)
                                      try (exfalso; first | contradiction | omega)
                                      all_goals
                                        refine aY (aI rfl (aY (aU (gQ rfl) (aY (fK rfl rfl (aY (iM rfl (fun h20 => ?_) (fun h20 => ?_))))))))
                                        · (try simp only [aG] at h20)
                                          try (exfalso; first | contradiction | omega)
                                          all_goals
                                            refine aY (aI rfl (aY (aI rfl (aY (aI rfl (aY ?_))))))
                                            obtain ⟨bv, ov, cv, ev⟩ := Rd.kV (hv _ (HL)) (by omega)
                                            cases ev
                                            refine aU (bY underlying22 sizeOf23 rfl rfl (by omega)) (aY ?_)
                                            refine aU (dZ (bU underlying23 rfl) rfl (by first | exact Rd.nZ (hv _ (HL)) (by omega) | exact Rd.AV (hv _ (HL)) (by omega) | exact Rd.zX (hv _ (HL)) (by omega))) ?_
                                            refine jQ (fun aaR Ue => ?_)
                                            refine aY ?_
                                            refine aU (eG ((by rw [Ue]; exact he _ (by omega) _ (HL))) underlying23 rfl) ?_
                                            refine aY (aU (fB rfl rfl) (aY (fK rfl rfl (fC rfl rfl (aW rfl (aA (aj (aP rfl (fun h21 => ?_) (fun h21 => ?_)))))))))
                                            · (try simp only [aG] at h21)
                                              try (exfalso; first | contradiction | omega)
                                              all_goals
                                                refine dK ?_
                                                refine jZ (by decide) ?_
                                                refine aV (bD (aj (ah (aI rfl (aI rfl (aU (dG rfl rfl (by omega)) (aW rfl (aA ?_))))))))
                                                refine cO (i + if back then -1 else 1) ?_ ?_ ?_ ?_
                                                · exact (Sub.cons rfl (Sub.nil _))
                                                · exact (Sub.cons rfl (Sub.cons rfl (Sub.cons rfl (Sub.cons rfl (Sub.cons rfl (Sub.cons rfl (Sub.nil _)))))))
                                                · (try dsimp only)
                                                  first | done | exact ⟨⟨by cases back <;> simp at * <;> omega, by cases back <;> simp at * <;> omega, by cases back <;> simp at * <;> omega, e1.trans (uq hi0 hil (by first | exact hno | exact wH (by simpa using ‹back = true›) (by omega) (by omega) | exact wI (by simp_all) (by omega) (by omega)))⟩, HL⟩
                                                · cases back <;> simp <;> omega
                                            · (try simp only [aG] at h21)
                                              try (exfalso; first | contradiction | omega)
                                              all_goals
                                                refine ay (ah (aI rfl (aI rfl (aU (gU rfl rfl) (aW rfl (aA (aj (aP rfl (fun h22 => ?_) (fun h22 => ?_)))))))))
                                                · (try simp only [aG] at h22)
                                                  try (exfalso; first | contradiction | omega)
                                                  all_goals
                                                    refine ah (aI rfl (aW rfl (aA (aH ?_))))
                                                    refine bF (()) ?_ ?_ ?_
                                                    · exact (Sub.dQ rfl (by simp_all) (Sub.nil _))
                                                    · exact (Sub.cons rfl (Sub.cons rfl (Sub.cons rfl (Sub.cons rfl (Sub.cons rfl (Sub.cons rfl (Sub.cons rfl (Sub.cons rfl (Sub.cons rfl (Sub.cons rfl (Sub.cons rfl (Sub.nil _))))))))))))
                                                    · (try dsimp only)
                                                      first | done | exact rfl
                                                · (try simp only [aG] at h22)
                                                  try (exfalso; first | contradiction | omega)
                                                  all_goals
                                                    refine ay (ah (aI rfl (aW rfl (aA (aj (aP rfl (fun h23 => ?_) (fun h23 => ?_)))))))
                                                    · (try simp only [aG] at h23)
                                                      try (exfalso; first | contradiction | omega)
                                                      all_goals
                                                        refine ah (aI rfl (aI rfl (aU (bY underlying22 sizeOf23 rfl rfl (by omega)) ?_)))
                                                        refine aU (dZ (bU underlying23 rfl) rfl (by first | exact Rd.nZ (hv _ (HL)) (by omega) | exact Rd.AV (hv _ (HL)) (by omega) | exact Rd.zX (hv _ (HL)) (by omega))) ?_
                                                        refine jQ (fun aaS Uf => ?_)
                                                        refine aU (eG ((by rw [Uf]; exact he _ (by omega) _ (HL))) underlying23 rfl) ?_
                                                        refine aW rfl (aA (aH ?_))
                                                        refine bF (()) ?_ ?_ ?_
                                                        · exact (Sub.dQ rfl (by simp_all) (Sub.nil _))
                                                        · exact (Sub.cons rfl (Sub.cons rfl (Sub.cons rfl (Sub.cons rfl (Sub.cons rfl (Sub.cons rfl (Sub.cons rfl (Sub.cons rfl (Sub.cons rfl (Sub.cons rfl (Sub.cons rfl (Sub.nil _))))))))))))
                                                        · (try dsimp only)
                                                          first | done | exact rfl
                                                    · (try simp only [aG] at h23)
                                                      try (exfalso; first | contradiction | omega)
                                                      all_goals
                                                        refine aO (aH ?_)
                                                        refine bF (()) ?_ ?_ ?_
                                                        · exact (Sub.dQ rfl (by simp_all) (Sub.nil _))
                                                        · exact (Sub.cons rfl (Sub.cons rfl (Sub.cons rfl (Sub.cons rfl (Sub.cons rfl (Sub.cons rfl (Sub.cons rfl (Sub.cons rfl (Sub.cons rfl (Sub.cons rfl (Sub.cons rfl (Sub.nil _))))))))))))
                                                        · (try dsimp only)
                                                          first | done | exact rfl
                                        · (try simp only [aG] at h20)
                                          try (exfalso; first | contradiction | omega)
                                          all_goals
                                            refine aZ (aZ (aZ (aZ (aZ (aZ (aZ (aY (fC rfl rfl (fC rfl rfl (aW rfl (aA (aj (nY (ay (ah (aI rfl (aI rfl (aU (gU rfl rfl) (aW rfl (aA (aj (aP rfl (fun h24 => ?_) (fun h24 => ?_)))))))))))))))))))))))
                                            · (try simp only [aG] at h24)
                                              try (exfalso; first | contradiction | omega)
                                              all_goals
                                                refine ah (aI rfl (aW rfl (aA (aH ?_))))
                                                refine bF (()) ?_ ?_ ?_
                                                · exact (Sub.dQ rfl (by simp_all) (Sub.nil _))
                                                · exact (Sub.cons rfl (Sub.cons rfl (Sub.cons rfl (Sub.cons rfl (Sub.cons rfl (Sub.cons rfl (Sub.cons rfl (Sub.cons rfl (Sub.cons rfl (Sub.cons rfl (Sub.cons rfl (Sub.nil _))))))))))))
                                                · (try dsimp only)
                                                  first | done | exact rfl
                                            · (try simp only [aG] at h24)
                                              try (exfalso; first | contradiction | omega)
                                              all_goals
                                                refine ay (ah (aI rfl (aW rfl (aA (aj (aP rfl (fun h25 => ?_) (fun h25 => ?_)))))))
                                                · (try simp only [aG] at h25)
                                                  try (exfalso; first | contradiction | omega)
                                                  all_goals
                                                    refine ah (aI rfl (aI rfl ?_))
                                                    obtain ⟨bv, ov, cv, ev⟩ := Rd.kV (hv _ (HL)) (by omega)
                                                    cases ev
                                                    refine aU (bY underlying22 sizeOf23 rfl rfl (by omega)) ?_
                                                    refine aU (dZ (bU underlying23 rfl) rfl (by first | exact Rd.nZ (hv _ (HL)) (by omega) | exact Rd.AV (hv _ (HL)) (by omega) | exact Rd.zX (hv _ (HL)) (by omega))) ?_
                                                    refine jQ (fun aaT Ug => ?_)
                                                    refine aU (eG ((by rw [Ug]; exact he _ (by omega) _ (HL))) underlying23 rfl) ?_
                                                    refine aW rfl (aA (aH ?_))
                                                    refine bF (()) ?_ ?_ ?_
                                                    · exact (Sub.dQ rfl (by simp_all) (Sub.nil _))
                                                    · exact (Sub.cons rfl (Sub.cons rfl (Sub.cons rfl (Sub.cons rfl (Sub.cons rfl (Sub.cons rfl (Sub.cons rfl (Sub.cons rfl (Sub.cons rfl (Sub.cons rfl (Sub.cons rfl (Sub.nil _))))))))))))
                                                    · (try dsimp only)
                                                      first | done | exact rfl
                                                · (try simp only [aG] at h25)
                                                  try (exfalso; first | contradiction | omega)
                                                  all_goals
                                                    refine aO (aH ?_)
                                                    refine bF (()) ?_ ?_ ?_
                                                    · exact (Sub.dQ rfl (by simp_all) (Sub.nil _))
                                                    · exact (Sub.cons rfl (Sub.cons rfl (Sub.cons rfl (Sub.cons rfl (Sub.cons rfl (Sub.cons rfl (Sub.cons rfl (Sub.cons rfl (Sub.cons rfl (Sub.cons rfl (Sub.cons rfl (Sub.nil _))))))))))))
                                                    · (try dsimp only)
                                                      first | done | exact rfl
                                    · (try simp only [aG] at h19)
                                      try (exfalso; first | contradiction | omega)
                                      all_goals
                                        refine aZ (aZ (aY (fC rfl rfl (aY (aI rfl (aZ (aZ (aZ (aZ (aZ (aZ (aZ (aY (fC rfl rfl (fC rfl rfl (aW rfl (aA (aj (nY (ay (ah (aI rfl (aI rfl (aU (gU rfl rfl) (aW rfl (aA (aj (aP rfl (fun h26 => ?_) (fun h26 => ?_)))))))))))))))))))))))))))))
                                        · (try simp only [aG] at h26)
                                          try (exfalso; first | contradiction | omega)
                                          all_goals
                                            refine ah (aI rfl (aW rfl (aA (aH ?_))))
                                            refine bF (()) ?_ ?_ ?_
                                            · exact (Sub.dQ rfl (by simp_all) (Sub.nil _))
                                            · exact (Sub.cons rfl (Sub.cons rfl (Sub.cons rfl (Sub.cons rfl (Sub.cons rfl (Sub.cons rfl (Sub.cons rfl (Sub.cons rfl (Sub.cons rfl (Sub.cons rfl (Sub.cons rfl (Sub.nil _))))))))))))
                                            · (try dsimp only)
                                              first | done | exact rfl
                                        · (try simp only [aG] at h26)
                                          try (exfalso; first | contradiction | omega)
                                          all_goals
                                            refine ay (ah (aI rfl (aW rfl (aA (aj (aP rfl (fun h27 => ?_) (fun h27 => ?_)))))))
                                            · (try simp only [aG] at h27)
                                              try (exfalso; first | contradiction | omega)
                                              all_goals
                                                refine ah (aI rfl (aI rfl ?_))
                                                obtain ⟨bv, ov, cv, ev⟩ := Rd.kV (hv _ (HL)) (by omega)
                                                cases ev
                                                refine aU (bY underlying22 sizeOf23 rfl rfl (by omega)) ?_
                                                refine aU (dZ (bU underlying23 rfl) rfl (by first | exact Rd.nZ (hv _ (HL)) (by omega) | exact Rd.AV (hv _ (HL)) (by omega) | exact Rd.zX (hv _ (HL)) (by omega))) ?_
                                                refine jQ (fun aaU Uh => ?_)
                                                refine aU (eG ((by rw [Uh]; exact he _ (by omega) _ (HL))) underlying23 rfl) ?_
                                                refine aW rfl (aA (aH ?_))
                                                refine bF (()) ?_ ?_ ?_
                                                · exact (Sub.dQ rfl (by simp_all) (Sub.nil _))
                                                · exact (Sub.cons rfl (Sub.cons rfl (Sub.cons rfl (Sub.cons rfl (Sub.cons rfl (Sub.cons rfl (Sub.cons rfl (Sub.cons rfl (Sub.cons rfl (Sub.cons rfl (Sub.cons rfl (Sub.nil _))))))))))))
                                                · (try dsimp only)
                                                  first | done | exact rfl
                                            · (try simp only [aG] at h27)
                                              try (exfalso; first | contradiction | omega)
                                              all_goals
                                                refine aO (aH ?_)
                                                refine bF (()) ?_ ?_ ?_
                                                · exact (Sub.dQ rfl (by simp_all) (Sub.nil _))
                                                · exact (Sub.cons rfl (Sub.cons rfl (Sub.cons rfl (Sub.cons rfl (Sub.cons rfl (Sub.cons rfl (Sub.cons rfl (Sub.cons rfl (Sub.cons rfl (Sub.cons rfl (Sub.cons rfl (Sub.nil _))))))))))))
                                                · (try dsimp only)
                                                  first | done | exact rfl
                            · (try simp only [aG] at h7)
                              try (exfalso; first | contradiction | omega)
                              all_goals
                                refine aZ (fC rfl rfl (aI rfl (aZ (aZ (fC rfl rfl (aI rfl (aY (aI rfl (aY (aI rfl (aY (aU (gU rfl rfl) (aY (iM rfl (fun h28 => ?_) (fun h28 => ?_)))))))))))))))
                                · (try simp only [aG] at h28)
                                  try (exfalso; first | contradiction | omega)
                                  all_goals
                                    refine aY (aI rfl (aY (aU (gQ rfl) (aY (fK rfl rfl (aY (iM rfl (fun h29 => ?_) (fun h29 => ?_))))))))
                                    · (try simp only [aG] at h29)
                                      try (exfalso; first | contradiction | omega)
                                      all_goals
                                        refine aY (aI rfl (aY (aI rfl (aY (aI rfl (aY ?_))))))
                                        obtain ⟨bv, ov, cv, ev⟩ := Rd.kV (hv _ (HL)) (by omega)
                                        cases ev
                                        refine aU (bY underlying22 sizeOf23 rfl rfl (by omega)) (aY ?_)
                                        refine aU (dZ (bU underlying23 rfl) rfl (by first | exact Rd.nZ (hv _ (HL)) (by omega) | exact Rd.AV (hv _ (HL)) (by omega) | exact Rd.zX (hv _ (HL)) (by omega))) ?_
                                        refine jQ (fun aaV Ui => ?_)
                                        refine aY ?_
                                        refine aU (eG ((by rw [Ui]; exact he _ (by omega) _ (HL))) underlying23 rfl) ?_
                                        refine aY (aU (fB rfl rfl) (aY (fK rfl rfl (fC rfl rfl (aW rfl (aA (aj (aP rfl (fun h30 => ?_) (fun h30 => ?_)))))))))
                                        · (try simp only [aG] at h30)
                                          try (exfalso; first | contradiction | omega)
                                          all_goals
                                            refine dK ?_
                                            refine jZ (by decide) ?_
                                            refine aV (bD (aj (ah (aI rfl (aI rfl (aU (dG rfl rfl (by omega)) (aW rfl (aA ?_))))))))
                                            refine cO (i + if back then -1 else 1) ?_ ?_ ?_ ?_
                                            · exact (Sub.cons rfl (Sub.nil _))
                                            · exact (Sub.cons rfl (Sub.cons rfl (Sub.cons rfl (Sub.cons rfl (Sub.cons rfl (Sub.cons rfl (Sub.nil _)))))))
                                            · (try dsimp only)
                                              first | done | exact ⟨⟨by cases back <;> simp at * <;> omega, by cases back <;> simp at * <;> omega, by cases back <;> simp at * <;> omega, e1.trans (uq hi0 hil (by first | exact hno | exact wH (by simpa using ‹back = true›) (by omega) (by omega) | exact wI (by simp_all) (by omega) (by omega)))⟩, HL⟩
                                            · cases back <;> simp <;> omega
                                        · (try simp only [aG] at h30)
                                          try (exfalso; first | contradiction | omega)
                                          all_goals
                                            refine ay (ah (aI rfl (aI rfl (aU (gU rfl rfl) (aW rfl (aA (aj (aP rfl (fun h31 => ?_) (fun h31 => ?_)))))))))
                                            · (try simp only [aG] at h31)
                                              try (exfalso; first | contradiction | omega)
                                              all_goals
                                                refine ah (aI rfl (aW rfl (aA (aH ?_))))
                                                refine bF (()) ?_ ?_ ?_
                                                · exact (Sub.dQ rfl (by simp_all) (Sub.nil _))
                                                · exact (Sub.cons rfl (Sub.cons rfl (Sub.cons rfl (Sub.cons rfl (Sub.cons rfl (Sub.cons rfl (Sub.cons rfl (Sub.cons rfl (Sub.cons rfl (Sub.cons rfl (Sub.cons rfl (Sub.nil _))))))))))))
                                                · (try dsimp only)
                                                  first | done | exact rfl
                                            · (try simp only [aG] at h31)
                                              try (exfalso; first | contradiction | omega)
                                              all_goals
                                                refine ay (ah (aI rfl (aW rfl (aA (aj (aP rfl (fun h32 => ?_) (fun h32 => ?_)))))))
                                                · (try simp only [aG] at h32)
                                                  try (exfalso; first | contradiction | omega)
                                                  all_goals
                                                    refine ah (aI rfl (aI rfl (aU (bY underlying22 sizeOf23 rfl rfl (by omega)) ?_)))
                                                    refine aU (dZ (bU underlying23 rfl) rfl (by first | exact Rd.nZ (hv _ (HL)) (by omega) | exact Rd.AV (hv _ (HL)) (by omega) | exact Rd.zX (hv _ (HL)) (by omega))) ?_
                                                    refine jQ (fun aaW Uj => ?_)
                                                    refine aU (eG ((by rw [Uj]; exact he _ (by omega) _ (HL))) underlying23 rfl) ?_
                                                    refine aW rfl (aA (aH ?_))
                                                    refine bF (()) ?_ ?_ ?_
                                                    · exact (Sub.dQ rfl (by simp_all) (Sub.nil _))
                                                    · exact (Sub.cons rfl (Sub.cons rfl (Sub.cons rfl (Sub.cons rfl (Sub.cons rfl (Sub.cons rfl (Sub.cons rfl (Sub.cons rfl (Sub.cons rfl (Sub.cons rfl (Sub.cons rfl (Sub.nil _))))))))))))
                                                    · (try dsimp only)
                                                      first | done | exact rfl
                                                · (try simp only [aG] at h32)
                                                  try (exfalso; first | contradiction | omega)
                                                  all_goals
                                                    refine aO (aH ?_)
                                                    refine bF (()) ?_ ?_ ?_
                                                    · exact (Sub.dQ rfl (by simp_all) (Sub.nil _))
                                                    · exact (Sub.cons rfl (Sub.cons rfl (Sub.cons rfl (Sub.cons rfl (Sub.cons rfl (Sub.cons rfl (Sub.cons rfl (Sub.cons rfl (Sub.cons rfl (Sub.cons rfl (Sub.cons rfl (Sub.nil _))))))))))))
                                                    · (try dsimp only)
                                                      first | done | exact rfl
                                    · (try simp only [aG] at h29)
                                      try (exfalso; first | contradiction | omega)
                                      all_goals
                                        refine aZ (aZ (aZ (aZ (aZ (aZ (aZ (aY (fC rfl rfl (fC rfl rfl (aW rfl (aA (aj (nY (ay (ah (aI rfl (aI rfl (aU (gU rfl rfl) (aW rfl (aA (aj (aP rfl (fun h33 => ?_) (fun h33 => ?_)))))))))))))))))))))))
                                        · (try simp only [aG] at h33)
                                          try (exfalso; first | contradiction | omega)
                                          all_goals
                                            refine ah (aI rfl (aW rfl (aA (aH ?_))))
                                            refine bF (()) ?_ ?_ ?_
                                            · exact (Sub.dQ rfl (by simp_all) (Sub.nil _))
                                            · exact (Sub.cons rfl (Sub.cons rfl (Sub.cons rfl (Sub.cons rfl (Sub.cons rfl (Sub.cons rfl (Sub.cons rfl (Sub.cons rfl (Sub.cons rfl (Sub.cons rfl (Sub.cons rfl (Sub.nil _))))))))))))
                                            · (try dsimp only)
                                              first | done | exact rfl
                                        · (try simp only [aG] at h33)
                                          try (exfalso; first | contradiction | omega)
                                          all_goals
                                            refine ay (ah (aI rfl (aW rfl (aA (aj (aP rfl (fun h34 => ?_) (fun h34 => ?_)))))))
                                            · (try simp only [aG] at h34)
                                              try (exfalso; first | contradiction | omega)
                                              all_goals
                                                refine ah (aI rfl (aI rfl ?_))
                                                obtain ⟨bv, ov, cv, ev⟩ := Rd.kV (hv _ (HL)) (by omega)
                                                cases ev
                                                refine aU (bY underlying22 sizeOf23 rfl rfl (by omega)) ?_
                                                refine aU (dZ (bU underlying23 rfl) rfl (by first | exact Rd.nZ (hv _ (HL)) (by omega) | exact Rd.AV (hv _ (HL)) (by omega) | exact Rd.zX (hv _ (HL)) (by omega))) ?_
                                                refine jQ (fun aaX Uk => ?_)
                                                refine aU (eG ((by rw [Uk]; exact he _ (by omega) _ (HL))) underlying23 rfl) ?_
                                                refine aW rfl (aA (aH ?_))
                                                refine bF (()) ?_ ?_ ?_
                                                · exact (Sub.dQ rfl (by simp_all) (Sub.nil _))
                                                · exact (Sub.cons rfl (Sub.cons rfl (Sub.cons rfl (Sub.cons rfl (Sub.cons rfl (Sub.cons rfl (Sub.cons rfl (Sub.cons rfl (Sub.cons rfl (Sub.cons rfl (Sub.cons rfl (Sub.nil _))))))))))))
                                                · (try dsimp only)
                                                  first | done | exact rfl
                                            · (try simp only [aG] at h34)
                                              try (exfalso; first | contradiction | omega)
                                              all_goals
                                                refine aO (aH ?_)
                                                refine bF (()) ?_ ?_ ?_
                                                · exact (Sub.dQ rfl (by simp_all) (Sub.nil _))
                                                · exact (Sub.cons rfl (Sub.cons rfl (Sub.cons rfl (Sub.cons rfl (Sub.cons rfl (Sub.cons rfl (Sub.cons rfl (Sub.cons rfl (Sub.cons rfl (Sub.cons rfl (Sub.cons rfl (Sub.nil _))))))))))))
                                                · (try dsimp only)
                                                  first | done | exact rfl
                                · (try simp only [aG] at h28)
                                  try (exfalso; first | contradiction | omega)
                                  all_goals
                                    refine aZ (aZ (aY (fC rfl rfl (aY (aI rfl (aZ (aZ (aZ (aZ (aZ (aZ (aZ (aY (fC rfl rfl (fC rfl rfl (aW rfl (aA (aj (nY (ay (ah (aI rfl (aI rfl (aU (gU rfl rfl) (aW rfl (aA (aj (aP rfl (fun h35 => ?_) (fun h35 => ?_)))))))))))))))))))))))))))))
                                    · (try simp only [aG] at h35)
                                      try (exfalso; first | contradiction | omega)
                                      all_goals
                                        refine ah (aI rfl (aW rfl (aA (aH ?_))))
                                        refine bF (()) ?_ ?_ ?_
                                        · exact (Sub.dQ rfl (by simp_all) (Sub.nil _))
                                        · exact (Sub.cons rfl (Sub.cons rfl (Sub.cons rfl (Sub.cons rfl (Sub.cons rfl (Sub.cons rfl (Sub.cons rfl (Sub.cons rfl (Sub.cons rfl (Sub.cons rfl (Sub.cons rfl (Sub.nil _))))))))))))
                                        · (try dsimp only)
                                          first | done | exact rfl
                                    · (try simp only [aG] at h35)
                                      try (exfalso; first | contradiction | omega)
                                      all_goals
                                        refine ay (ah (aI rfl (aW rfl (aA (aj (aP rfl (fun h36 => ?_) (fun h36 => ?_)))))))
                                        · (try simp only [aG] at h36)
                                          try (exfalso; first | contradiction | omega)
                                          all_goals
                                            refine ah (aI rfl (aI rfl ?_))
                                            obtain ⟨bv, ov, cv, ev⟩ := Rd.kV (hv _ (HL)) (by omega)
                                            cases ev
                                            refine aU (bY underlying22 sizeOf23 rfl rfl (by omega)) ?_
                                            refine aU (dZ (bU underlying23 rfl) rfl (by first | exact Rd.nZ (hv _ (HL)) (by omega) | exact Rd.AV (hv _ (HL)) (by omega) | exact Rd.zX (hv _ (HL)) (by omega))) ?_
                                            refine jQ (fun aaY Ul => ?_)
                                            refine aU (eG ((by rw [Ul]; exact he _ (by omega) _ (HL))) underlying23 rfl) ?_
                                            refine aW rfl (aA (aH ?_))
                                            refine bF (()) ?_ ?_ ?_
                                            · exact (Sub.dQ rfl (by simp_all) (Sub.nil _))
                                            · exact (Sub.cons rfl (Sub.cons rfl (Sub.cons rfl (Sub.cons rfl (Sub.cons rfl (Sub.cons rfl (Sub.cons rfl (Sub.cons rfl (Sub.cons rfl (Sub.cons rfl (Sub.cons rfl (Sub.nil _))))))))))))
                                            · (try dsimp only)
                                              first | done | exact rfl
                                        · (try simp only [aG] at h36)
                                          try (exfalso; first | contradiction | omega)
                                          all_goals
                                            refine aO (aH ?_)
                                            refine bF (()) ?_ ?_ ?_
                                            · exact (Sub.dQ rfl (by simp_all) (Sub.nil _))
                                            · exact (Sub.cons rfl (Sub.cons rfl (Sub.cons rfl (Sub.cons rfl (Sub.cons rfl (Sub.cons rfl (Sub.cons rfl (Sub.cons rfl (Sub.cons rfl (Sub.cons rfl (Sub.cons rfl (Sub.nil _))))))))))))
                                            · (try dsimp only)
                                              first | done | exact rfl
                      · (try simp only [aG] at h5)
                        try (exfalso; first | contradiction | omega)
                        all_goals
                          refine dK (aV (aV (bD (aj (ay (ah (aW rfl (aW rfl (aW rfl (aA (aj (aK ?_))))))))))))
                          refine lu ?_
                          refine wS (.inl rfl) results7 rfl rfl rfl ?_
                          exact ⟨by rw [e1, Dv (by omega) hbk hfw], HL⟩
                  · (try simp only [aG] at h4)
                    try (exfalso; first | contradiction | omega)
                    all_goals
                      refine aZ (aZ (aZ (aZ (fC rfl rfl (aA (aj (nY (dK (aV (aV (bD (aj (ay (ah (aW rfl (aW rfl (aW rfl (aA (aj (aK ?_))))))))))))))))))))
                      refine lu ?_
                      refine wS (.inl rfl) results7 rfl rfl rfl ?_
                      exact ⟨by rw [e1, Dv (by omega) hbk hfw], HL⟩
                · skip
                  refine RG ?_
                  refine bF (()) ?_ ?_ ?_
                  · exact (Sub.dQ rfl (by simp_all) (Sub.nil _))
                  · exact (Sub.cons rfl (Sub.cons rfl (Sub.cons rfl (Sub.cons rfl (Sub.cons rfl (Sub.nil _))))))
                  · (try dsimp only)
                    first | done | exact rfl
              · skip
                refine ay (ah (aI rfl (aA (aj (aP rfl (fun h37 => ?_) (fun h37 => ?_))))))
                · (try simp only [aG] at h37)
                  try (exfalso; first | contradiction | omega)
                  all_goals
                    refine ah (aW rfl (aA ?_))
                    refine bF (()) ?_ ?_ ?_
                    · exact (Sub.dQ rfl (by simp_all) (Sub.nil _))
                    · exact (Sub.cons rfl (Sub.cons rfl (Sub.cons rfl (Sub.cons rfl (Sub.cons rfl (Sub.nil _))))))
                    · (try dsimp only)
                      first | done | exact rfl
                · (try simp only [aG] at h37)
                  try (exfalso; first | contradiction | omega)
                  all_goals
                    refine aO ?_
                    refine bF (()) ?_ ?_ ?_
                    · exact (Sub.dQ rfl (by simp_all) (Sub.nil _))
                    · exact (Sub.cons rfl (Sub.cons rfl (Sub.cons rfl (Sub.cons rfl (Sub.cons rfl (Sub.nil _))))))
                    · (try dsimp only)
                      first | done | exact rfl
end
end Go.Proofs.YtddekefihgejoaaGreatDoor
end
