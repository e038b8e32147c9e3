import Derived.Test.YtddekefihgejoaaGreatDoorZ2
import Derived.Test.YtddekefihgejoaaGreatDoorZ18
import Derived.Test.YtddekefihgejoaaGreatDoorZ5
set_option linter.unusedSimpArgs false
set_option linter.unusedVariables false
/- Texts of mine, joined, their names in short: Is1. -/
section
namespace Go.Proofs.YtddekefihgejoaaGreatDoor
open Go.RowKit
open _root_.Go.Proofs.Tryz
theorem Dv {l p : List Int} {i : Int} (h0 : 0 ≤ i) (hm : i ≤ mg l p) : ((l.drop i.toNat).take ((i + p.length).toNat - i.toNat) = p) ↔ Bq l p i.toNat = true := by
  unfold mg at hm
  rw [Du, show (i + p.length).toNat - i.toNat = p.length from by omega]
  constructor
  · intro h; exact ⟨by omega, h⟩
  · intro h; exact h.2
section
variable {w0 w : World} {F : HP} {v1 v2 : Value} {l p : List Int} {i : Int} {back : Bool}
theorem FK (H : aA w0 w F) (hv1 : gV w0 F .i32 v1 l) (hv2 : gV w0 F .i32 v2 p) (hb9 : l.length ≤ 4611686018427387904) : fQ prog 30 #[v1, v2, .int .i64 i, .bool back] w fun v w' => v = .int .i64 (jO l p i back) ∧ aA w0 w' F := by
 have hl9 : l.length ≤ 9223372036854775807 := by have := (hv1 _ H).open; obtain ⟨a, c, e, h3, h4, _⟩ := this; omega
 have hp9 : p.length ≤ 9223372036854775807 := by have := (hv2 _ H).open; obtain ⟨a, c, e, h3, h4, _⟩ := this; omega
 refine iw func30 ntmps30 ?_
 dsimp only [aZ, Nat.reduceAdd]
 refine ay (ah (aW rfl (aB (aj (ay (ah (aP rfl (aU (gK (hv1 _ (H)) underlying23 rfl) (aP rfl (aU (gK (hv2 _ (H)) underlying23 rfl) (aU (je rfl rfl (by omega)) (aW rfl (aB (aj (ay (ay (ah (aP rfl (aB (aj (aO rfl (fun h1 => ?_) (fun h1 => ?_))))))))))))))))))))))
 ·(try simp only [aG] at h1)
  have hb : back = true := h1
  have e0 : jO l p i back = lD l p ((min i (mg l p)) + 1).toNat := by unfold jO; rw [if_pos hb]
  refine ay (ay (ah (aP rfl (aP rfl (aU (Qm rfl rfl) (aW rfl (aB (aj (aY ?_)))))))))
  refine eP [(0, _), (1, _)] (fun (k : Int) => [(10, .int .i64 k)]) (fun (k : Int) W => (k ≤ mg l p ∧ jO l p i back = lD l p (k + 1).toNat) ∧ aA w0 W F) (fun (k : Int) => (k + 1).toNat) (min i (mg l p)) (Sub.cons rfl (Sub.cons rfl (Sub.nil _))) (Sub.cons rfl (Sub.nil _)) ⟨⟨by omega, e0⟩, H⟩ ?_
  rintro k w1 ⟨⟨hk, e1⟩, HL⟩
  dsimp only [List.cons_append, List.nil_append]
  refine ay (ay (ah (aP rfl (aU (wW rfl rfl) (aB (aj (aO rfl (fun h2 => ?_) (fun h2 => ?_))))))))
  ·(try simp only [aG] at h2)
   refine aQ (aj (ay (aY (ay ?_))))
   have hk0 : 0 ≤ k := by omega
   have hmm : k ≤ (l.length : Int) - p.length := hk
   refine ah (aP rfl (aP rfl (aP rfl (aP rfl (aU (gK (hv2 _ (HL)) underlying23 rfl) (aU (dR rfl rfl (by omega)) (aU (uH (hv1 _ (HL)) underlying23 sizeOf21 rfl rfl rfl (by omega)) (aP rfl (dD rfl func70 (AO _ _ _ _ _ (iI.cut (hv1 _ (HL)) (by omega) (by omega)) (hv2 _ (HL))) ?_)))))))))
   rintro _ w2 ⟨rfl, hD2⟩
   have HD2 := HL.wM hD2
   refine aB (aj (aO rfl (fun h3 => ?_) (fun h3 => ?_)))
   ·(try simp only [aG] at h3)
    have hat := (Dv hk0 hk).1 h3
    refine ay (ah (aP rfl (aW rfl (aB (aj (aN (aX (aK (aK (aX (aK (aK (aT (.inl rfl) results30 rfl ?_)))))))))))))
    exact ⟨by rw [e1, MV hk0 hat], HD2⟩
   ·(try simp only [aG] at h3)
    have hat : ¬ Bq l p k.toNat = true := fun c => absurd ((Dv hk0 hk).2 c) (by have h9 := h3; simpa using h9)
    refine aQ (aH (aj (ah (aP rfl (aU (je rfl rfl (by omega)) (aW rfl (aB ?_)))))))
    refine bZ (k - 1) ?_ ?_ ?_ ?_
    ·exact (Sub.cons rfl (Sub.nil _))
    ·exact (Sub.cons rfl (Sub.cons rfl (Sub.nil _)))
    ·(try dsimp only)
     first | done | exact ⟨⟨by omega, by rw [e1, PX hk0 hat]⟩, HD2⟩
    ·(try dsimp only); omega
  ·(try simp only [aG] at h2)
   refine dK (aV (aV (bD (aj (ay (ah (aW rfl (aB (aj (aN (aK (aT (.inl rfl) results30 rfl ?_))))))))))))
   exact ⟨by rw [e1, MW (by omega)], HL⟩
 ·(try simp only [aG] at h1)
  have hb : ¬ back = true := by have h9 := h1; rw [h9]; decide
  have e0 : jO l p i back = jG l p (mg l p - max i 0 + 1).toNat (max i 0).toNat := by unfold jO; rw [if_neg hb]
  refine aQ (aj (ay (ay (ah (aP rfl (aU (XT rfl rfl) (aW rfl (aB (aj (aY ?_))))))))))
  refine eP [(0, _), (1, _), (9, _)] (fun (k : Int) => [(11, .int .i64 k)]) (fun (k : Int) W => (0 ≤ k ∧ jO l p i back = jG l p (mg l p - k + 1).toNat k.toNat) ∧ aA w0 W F) (fun (k : Int) => (mg l p - k + 1).toNat) (max i 0) (Sub.cons rfl (Sub.cons rfl (Sub.cons rfl (Sub.nil _)))) (Sub.cons rfl (Sub.nil _)) ⟨⟨by omega, e0⟩, H⟩ ?_
  rintro k w3 ⟨⟨hk0, e1⟩, HL⟩
  dsimp only [List.cons_append, List.nil_append]
  refine ay (ay (ah (aP rfl (aP rfl (aU (wO rfl rfl) (aB (aj (aO rfl (fun h4 => ?_) (fun h4 => ?_)))))))))
  ·(try simp only [aG] at h4)
   refine aQ (aj (ay (aY (ay ?_))))
   have hk : k ≤ mg l p := by unfold mg; omega
   have hmm : k ≤ (l.length : Int) - p.length := hk
   refine ah (aP rfl (aP rfl (aP rfl (aP rfl (aU (gK (hv2 _ (HL)) underlying23 rfl) (aU (dR rfl rfl (by omega)) (aU (uH (hv1 _ (HL)) underlying23 sizeOf21 rfl rfl rfl (by omega)) (aP rfl (dD rfl func70 (AO _ _ _ _ _ (iI.cut (hv1 _ (HL)) (by omega) (by omega)) (hv2 _ (HL))) ?_)))))))))
   rintro _ w4 ⟨rfl, hD4⟩
   have HD4 := HL.wM hD4
   refine aB (aj (aO rfl (fun h5 => ?_) (fun h5 => ?_)))
   ·(try simp only [aG] at h5)
    have hat := (Dv hk0 hk).1 h5
    refine ay (ah (aP rfl (aW rfl (aB (aj (aN (aX (aK (aK (aX (aK (aT (.inl rfl) results30 rfl ?_))))))))))))
    exact ⟨by rw [e1, KD hk0 hk hat], HD4⟩
   ·(try simp only [aG] at h5)
    have hat : ¬ Bq l p k.toNat = true := fun c => absurd ((Dv hk0 hk).2 c) (by have h9 := h5; simpa using h9)
    refine aQ (aH (aj (ah (aP rfl (aU (dR rfl rfl (by omega)) (aW rfl (aB ?_)))))))
    refine bZ (k + 1) ?_ ?_ ?_ ?_
    ·exact (Sub.cons rfl (Sub.nil _))
    ·exact (Sub.cons rfl (Sub.cons rfl (Sub.cons rfl (Sub.nil _))))
    ·(try dsimp only)
     first | done | exact ⟨⟨by omega, by rw [e1, MX hk0 hk hat]⟩, HD4⟩
    ·(try dsimp only); omega
  ·(try simp only [aG] at h4)
   refine dK (aV (aV (bD (aj (ay (ah (aW rfl (aB (aj (aN (aT (.inl rfl) results30 rfl ?_)))))))))))
   exact ⟨by rw [e1, KE (by unfold mg; omega)], HL⟩
end
section
variable {w0 w : World} {F : HP} {v v2 : Value} {us : List Value} {ls : List (List Int)} {p : List Int} {place at_ : Int} {back : Bool}
theorem KF (H : aA w0 w F) (hv : Aq w0 F 1 v ls.length us) (he : ∀ k, k < ls.length → gV w0 F .i32 (us.getD k undef) (ls.getD k [])) (hv2 : gV w0 F .i32 v2 p) (hb8 : ls.length ≤ 4611686018427387904) (hb9 : ∀ k, k < ls.length → (ls.getD k []).length ≤ 4611686018427387904) :
    fQ prog 7 #[v, .int .i64 place, .int .i64 at_, v2, .bool back] w fun v w' => v = .tuple #[.int .i64 (oG ls place at_ p back).1, .int .i64 (oG ls place at_ p back).2.1, .bool (oG ls place at_ p back).2.2] ∧ aA w0 w' F := by
  refine iw func7 ntmps7 ?_
  dsimp only [aZ, Nat.reduceAdd]
  refine ay (ah (aW rfl (aW rfl (aW rfl (aB (aj ?_))))))
  refine Tq ?_
  refine ay (ay (ah (aP rfl (aU (dV rfl rfl) (jL rfl (fun h1 => ?_) (fun h1 => ?_))))))
  · (try simp only [aG] at h1)
    try (exfalso; first | contradiction | omega)
    all_goals
      refine bK (bK (bK (bK (jP rfl rfl (aP rfl (bK (bK (bK (jP rfl rfl (aB (aj (Dj (ay (ah (aW rfl (aW rfl (aW rfl (aB (aj (aN (aK ?_)))))))))))))))))))))
      refine lK ?_
      refine xO (.inl rfl) results7 rfl rfl rfl ?_
      have hbad : oG ls place at_ p back = (0, 0, false) := by unfold oG; rw [if_pos (by omega)]
      exact ⟨by rw [hbad], H⟩
  · (try simp only [aG] at h1)
    try (exfalso; first | contradiction | omega)
    all_goals
      refine bn (aP rfl (bn (aP rfl (bn (aU (eY (hv _ (H)) underlying22 rfl) (bn (aU (wW rfl rfl) (jd rfl rfl (jL rfl (fun h2 => ?_) (fun h2 => ?_))))))))))
      · (try simp only [aG] at h2)
        try (exfalso; first | contradiction | omega)
        all_goals
          refine bK (bK (bK (jP rfl rfl (aB (aj (Dj (ay (ah (aW rfl (aW rfl (aW rfl (aB (aj (aN (aK ?_)))))))))))))))
          refine lK ?_
          refine xO (.inl rfl) results7 rfl rfl rfl ?_
          have hbad : oG ls place at_ p back = (0, 0, false) := by unfold oG; rw [if_pos (by omega)]
          exact ⟨by rw [hbad], H⟩
      · (try simp only [aG] at h2)
        try (exfalso; first | contradiction | omega)
        all_goals
          refine bn (aP rfl (bn (aU (gK (hv2 _ (H)) underlying23 rfl) (bn (aU (iQ rfl rfl) (jd rfl rfl (aB (aj (aO rfl (fun h3 => ?_) (fun h3 => ?_))))))))))
          · (try simp only [aG] at h3)
            try (exfalso; first | contradiction | omega)
            all_goals
              refine ay (ah (aW rfl (aW rfl (aW rfl (aB (aj (aN (aK ?_))))))))
              refine lK ?_
              refine xO (.inl rfl) results7 rfl rfl rfl ?_
              have hbad : oG ls place at_ p back = (0, 0, false) := by unfold oG; rw [if_pos (by omega)]
              exact ⟨by rw [hbad], H⟩
          · (try simp only [aG] at h3)
            try (exfalso; first | contradiction | omega)
            all_goals
              have h09 := h3
              have hgood : oG ls place at_ p back = findAt ls place at_ p back place := by unfold oG findAt; rw [if_neg (by omega)]
              refine aQ (aj (ay (ah (aW rfl (aB (aj ?_))))))
              refine sZ [(0, _), (1, _), (2, _), (3, _), (4, _)] (fun (_ : Unit) => [(13, .int .i64 (if back then -1 else 1))]) (fun (_ : Unit) W => W = w) (Sub.cons rfl (Sub.cons rfl (Sub.cons rfl (Sub.cons rfl (Sub.cons rfl (Sub.nil _)))))) ?_ ?_
              · rintro _ w1 rfl
                dsimp only [List.cons_append, List.nil_append]
                refine sZ [(0, _), (1, _), (2, _), (3, _), (4, _)] (fun (_ : Unit) => [(13, .int .i64 (if back then -1 else 1))]) (fun (_ : Unit) W => W = w1) (Sub.cons rfl (Sub.cons rfl (Sub.cons rfl (Sub.cons rfl (Sub.cons rfl (Sub.nil _)))))) ?_ ?_
                · rintro _ w2 rfl
                  dsimp only [List.cons_append, List.nil_append]
                  refine ay (ay (ah (aP rfl (aW rfl (aB (aj (aY ?_)))))))
                  refine eP [(0, _), (1, _), (2, _), (3, _), (4, _), (13, _)] (fun (i : Int) => [(14, .int .i64 i)]) (fun (i : Int) W => ((-1 ≤ i ∧ i ≤ ls.length) ∧ (back = true → i < ls.length) ∧ (¬ back = true → 0 ≤ i) ∧ oG ls place at_ p back = findAt ls place at_ p back i) ∧ aA w0 W F) (fun (i : Int) => if back then (i + 1).toNat else ((ls.length : Int) - i).toNat) (place) (Sub.cons rfl (Sub.cons rfl (Sub.cons rfl (Sub.cons rfl (Sub.cons rfl (Sub.cons rfl (Sub.nil _))))))) (Sub.cons rfl (Sub.nil _)) ⟨⟨by omega, by omega, by omega, hgood⟩, H⟩ ?_
                  rintro i w3 ⟨⟨hi, hbk, hfw, e1⟩, HL⟩
                  dsimp only [List.cons_append, List.nil_append]
                  refine ay (ay (ah (aP rfl (aU (wW rfl rfl) (jL rfl (fun h4 => ?_) (fun h4 => ?_))))))
                  · (try simp only [aG] at h4)
                    try (exfalso; first | contradiction | omega)
                    all_goals
                      refine bn (aP rfl (bn (aP rfl (bn (aU (eY (hv _ (HL)) underlying22 rfl) (bn (aU (dV rfl rfl) (jP rfl rfl (aB (aj (aO rfl (fun h5 => ?_) (fun h5 => ?_))))))))))))
                      · (try simp only [aG] at h5)
                        try (exfalso; first | contradiction | omega)
                        all_goals
                          refine aQ (aj (ay (aY (ay ?_))))
                          have hi0 : 0 ≤ i := by omega
                          have hil : i < ls.length := by omega
                          have ac5 := hb9 i.toNat (by omega)
                          have hia : i.toNat < ls.length := by omega
                          refine ah (aW rfl (aB (aj ?_)))
                          refine sZ [(0, _), (1, _), (2, _), (3, _), (4, _), (13, _), (14, _), (35, _), (36, _), (37, _), (38, _)] (fun (_ : Unit) => [(15, .int .i64 (if i = place then at_ else if back then ((ls.getD i.toNat []).length : Int) else 0))]) (fun (_ : Unit) W => W = w3) (Sub.cons rfl (Sub.cons rfl (Sub.cons rfl (Sub.cons rfl (Sub.cons rfl (Sub.cons rfl (Sub.cons rfl (Sub.cons rfl (Sub.cons rfl (Sub.cons rfl (Sub.cons rfl (Sub.nil _)))))))))))) ?_ ?_
                          · rintro _ w4 rfl
                            dsimp only [List.cons_append, List.nil_append]
                            refine ay (ah (aP rfl (aP rfl ?_)))
                            obtain ⟨bv, ov, cv, ev⟩ := Rd.kN (hv _ (HL)) (by omega)
                            cases ev
                            refine aU (bV underlying22 sizeOf23 rfl rfl (by omega)) ?_
                            refine aU (dB (bG underlying23 rfl) rfl (by first | exact Rd.oV (hv _ (HL)) (by omega) | exact Rd.CQ (hv _ (HL)) (by omega) | exact Rd.BH (hv _ (HL)) (by omega))) ?_
                            refine oP (fun aci Xi => ?_)
                            refine aP rfl (aP rfl (aP rfl (dD rfl func30 (FK HL (fun W HW => (by rw [Xi]; exact he _ (by omega) _ (HW))) (fun W HW => hv2 _ (HW)) (by omega)) ?_)))
                            rintro _ w6 ⟨rfl, H6⟩
                            refine aW rfl (aB (aj (ay (ah (aP rfl (aU (wW rfl rfl) (aB (aj (aO rfl (fun h6 => ?_) (fun h6 => ?_))))))))))
                            · (try simp only [aG] at h6)
                              try (exfalso; first | contradiction | omega)
                              all_goals
                                have hyes : 0 ≤ qQ ls place at_ p back i.toNat := by unfold qQ; rw [show ((i.toNat : Nat) : Int) = i from by omega]; exact h6
                                refine ay (ah (aP rfl (aP rfl (aW rfl (aW rfl (aW rfl (aB (aj (aN (aX (aK (aK (aX (aK ?_))))))))))))))
                                refine lK ?_
                                refine xO (.inl rfl) results7 rfl rfl rfl ?_
                                exact ⟨by rw [e1, MZ hi0 hil hyes]; unfold qQ; rw [show ((i.toNat : Nat) : Int) = i from by omega], H6⟩
                            · (try simp only [aG] at h6)
                              try (exfalso; first | contradiction | omega)
                              all_goals
                                have hno : ¬ 0 ≤ qQ ls place at_ p back i.toNat := by unfold qQ; rw [show ((i.toNat : Nat) : Int) = i from by omega]; have h9 := h6; omega
                                refine aQ (aH (aj (ah (aP rfl (aP rfl (aU (dR rfl rfl (by omega)) (aW rfl (aB ?_))))))))
                                refine bZ (i + if back then -1 else 1) ?_ ?_ ?_ ?_
                                · exact (Sub.cons rfl (Sub.nil _))
                                · exact (Sub.cons rfl (Sub.cons rfl (Sub.cons rfl (Sub.cons rfl (Sub.cons rfl (Sub.cons rfl (Sub.nil _)))))))
                                · (try dsimp only)
                                  first | done | exact ⟨⟨by cases back <;> simp at * <;> omega, by cases back <;> simp at * <;> omega, by cases back <;> simp at * <;> omega, e1.trans (vH hi0 hil (by first | exact hno | exact xI (by simpa using ‹back = true›) (by omega) (by omega) | exact xJ (by simp_all) (by omega) (by omega)))⟩, H6⟩
                                · cases back <;> simp <;> omega
                          · skip
                            refine aY (ay (ah (aP rfl (aP rfl (aU (iQ rfl rfl) (jL rfl (fun h7 => ?_) (fun h7 => ?_)))))))
                            · (try simp only [aG] at h7)
                              try (exfalso; first | contradiction | omega)
                              all_goals
                                refine bn (aP rfl (jP rfl rfl (jL rfl (fun h8 => ?_) (fun h8 => ?_))))
                                · (try simp only [aG] at h8)
                                  try (exfalso; first | contradiction | omega)
                                  all_goals
                                    refine bn (aP rfl (bn (aU (dV rfl rfl) (jP rfl rfl (jL rfl (fun h9 => ?_) (fun h9 => ?_))))))
                                    · (try simp only [aG] at h9)
                                      try (exfalso; first | contradiction | omega)
                                      all_goals
                                        refine bK (bK (bK (bK (oI (oI (bK (bK (oI (oI (oI (oI (oI (oI (oI (bK (jP rfl rfl (aW rfl (aB (aj (Dj (dK ?_)))))))))))))))))))))
                                        refine kG (by decide) ?_
                                        refine aV (bD (aj (ah (aP rfl (aP rfl (aU (dR rfl rfl (by omega)) (aW rfl (aB ?_))))))))
                                        refine bZ (i + if back then -1 else 1) ?_ ?_ ?_ ?_
                                        · exact (Sub.cons rfl (Sub.nil _))
                                        · exact (Sub.cons rfl (Sub.cons rfl (Sub.cons rfl (Sub.cons rfl (Sub.cons rfl (Sub.cons rfl (Sub.nil _)))))))
                                        · (try dsimp only)
                                          first | done | exact ⟨⟨by cases back <;> simp at * <;> omega, by cases back <;> simp at * <;> omega, by cases back <;> simp at * <;> omega, e1.trans (vH hi0 hil (by first | exact hno | exact xI (by simpa using ‹back = true›) (by omega) (by omega) | exact xJ (by simp_all) (by omega) (by omega)))⟩, HL⟩
                                        · cases back <;> simp <;> omega
                                    · (try simp only [aG] at h9)
                                      try (exfalso; first | contradiction | omega)
                                      all_goals
                                        refine bn (aP rfl (bn (aP rfl (bn (aU (iQ rfl rfl) (bn (jL rfl (fun h10 => ?_) (fun h10 => ?_))))))))
                                        · (try simp only [aG] at h10)
                                          try (exfalso; first | contradiction | omega)
                                          all_goals
                                            refine bn (aP rfl (bn (aU (jT rfl) (bn (jP rfl rfl (bn (jL rfl (fun h11 => ?_) (fun h11 => ?_))))))))
                                            · (try simp only [aG] at h11)
                                              try (exfalso; first | contradiction | omega)
                                              all_goals
                                                refine bn (aP rfl (bn (aP rfl (bn (aP rfl (bn ?_))))))
                                                obtain ⟨bv, ov, cv, ev⟩ := Rd.kN (hv _ (HL)) (by omega)
                                                cases ev
                                                refine aU (bV underlying22 sizeOf23 rfl rfl (by omega)) (bn ?_)
                                                refine aU (dB (bG underlying23 rfl) rfl (by first | exact Rd.oV (hv _ (HL)) (by omega) | exact Rd.CQ (hv _ (HL)) (by omega) | exact Rd.BH (hv _ (HL)) (by omega))) ?_
                                                refine oP (fun acj Xj => ?_)
                                                refine bn ?_
                                                refine aU (gK ((by rw [Xj]; exact he _ (by omega) _ (HL))) underlying23 rfl) ?_
                                                refine bn (aU (gU rfl rfl) (bn (jP rfl rfl (jd rfl rfl (aW rfl (aB (aj (aO rfl (fun h12 => ?_) (fun h12 => ?_)))))))))
                                                · (try simp only [aG] at h12)
                                                  try (exfalso; first | contradiction | omega)
                                                  all_goals
                                                    refine dK ?_
                                                    refine kG (by decide) ?_
                                                    refine aV (bD (aj (ah (aP rfl (aP rfl (aU (dR rfl rfl (by omega)) (aW rfl (aB ?_))))))))
                                                    refine bZ (i + if back then -1 else 1) ?_ ?_ ?_ ?_
                                                    · exact (Sub.cons rfl (Sub.nil _))
                                                    · exact (Sub.cons rfl (Sub.cons rfl (Sub.cons rfl (Sub.cons rfl (Sub.cons rfl (Sub.cons rfl (Sub.nil _)))))))
                                                    · (try dsimp only)
                                                      first | done | exact ⟨⟨by cases back <;> simp at * <;> omega, by cases back <;> simp at * <;> omega, by cases back <;> simp at * <;> omega, e1.trans (vH hi0 hil (by first | exact hno | exact xI (by simpa using ‹back = true›) (by omega) (by omega) | exact xJ (by simp_all) (by omega) (by omega)))⟩, HL⟩
                                                    · cases back <;> simp <;> omega
                                                · (try simp only [aG] at h12)
                                                  try (exfalso; first | contradiction | omega)
                                                  all_goals
                                                    refine ay (ah (aP rfl (aP rfl (aU (iQ rfl rfl) (aW rfl (aB (aj (aO rfl (fun h13 => ?_) (fun h13 => ?_)))))))))
                                                    · (try simp only [aG] at h13)
                                                      try (exfalso; first | contradiction | omega)
                                                      all_goals
                                                        refine ah (aP rfl (aW rfl (aB (aH ?_))))
                                                        refine dh (()) ?_ ?_ ?_
                                                        · exact (Sub.iP rfl (by simp_all) (Sub.nil _))
                                                        · exact (Sub.cons rfl (Sub.cons rfl (Sub.cons rfl (Sub.cons rfl (Sub.cons rfl (Sub.cons rfl (Sub.cons rfl (Sub.cons rfl (Sub.cons rfl (Sub.cons rfl (Sub.cons rfl (Sub.nil _))))))))))))
                                                        · (try dsimp only)
                                                          first | done | exact rfl
                                                    · (try simp only [aG] at h13)
                                                      try (exfalso; first | contradiction | omega)
                                                      all_goals
                                                        refine ay (ah (aP rfl (aW rfl (aB (aj (aO rfl (fun h14 => ?_) (fun h14 => ?_)))))))
                                                        · (try simp only [aG] at h14)
                                                          try (exfalso; first | contradiction | omega)
                                                          all_goals
                                                            refine ah (aP rfl (aP rfl (aU (bV underlying22 sizeOf23 rfl rfl (by omega)) ?_)))
                                                            refine aU (dB (bG underlying23 rfl) rfl (by first | exact Rd.oV (hv _ (HL)) (by omega) | exact Rd.CQ (hv _ (HL)) (by omega) | exact Rd.BH (hv _ (HL)) (by omega))) ?_
                                                            refine oP (fun ack Xk => ?_)
                                                            refine aU (gK ((by rw [Xk]; exact he _ (by omega) _ (HL))) underlying23 rfl) ?_
                                                            refine aW rfl (aB (aH ?_))
                                                            refine dh (()) ?_ ?_ ?_
                                                            · exact (Sub.iP rfl (by simp_all) (Sub.nil _))
                                                            · exact (Sub.cons rfl (Sub.cons rfl (Sub.cons rfl (Sub.cons rfl (Sub.cons rfl (Sub.cons rfl (Sub.cons rfl (Sub.cons rfl (Sub.cons rfl (Sub.cons rfl (Sub.cons rfl (Sub.nil _))))))))))))
                                                            · (try dsimp only)
                                                              first | done | exact rfl
                                                        · (try simp only [aG] at h14)
                                                          try (exfalso; first | contradiction | omega)
                                                          all_goals
                                                            refine aQ (aH ?_)
                                                            refine dh (()) ?_ ?_ ?_
                                                            · exact (Sub.iP rfl (by simp_all) (Sub.nil _))
                                                            · exact (Sub.cons rfl (Sub.cons rfl (Sub.cons rfl (Sub.cons rfl (Sub.cons rfl (Sub.cons rfl (Sub.cons rfl (Sub.cons rfl (Sub.cons rfl (Sub.cons rfl (Sub.cons rfl (Sub.nil _))))))))))))
                                                            · (try dsimp only)
                                                              first | done | exact rfl
                                            · (try simp only [aG] at h11)
                                              try (exfalso; first | contradiction | omega)
                                              all_goals
                                                refine bK (bK (bK (bK (bK (bK (bK (bn (jd rfl rfl (jd rfl rfl (aW rfl (aB (aj (pW (ay (ah (aP rfl (aP rfl (aU (iQ rfl rfl) (aW rfl (aB (aj (aO rfl (fun h15 => ?_) (fun h15 => ?_)))))))))))))))))))))))
                                                · (try simp only [aG] at h15)
                                                  try (exfalso; first | contradiction | omega)
                                                  all_goals
                                                    refine ah (aP rfl (aW rfl (aB (aH ?_))))
                                                    refine dh (()) ?_ ?_ ?_
                                                    · exact (Sub.iP rfl (by simp_all) (Sub.nil _))
                                                    · exact (Sub.cons rfl (Sub.cons rfl (Sub.cons rfl (Sub.cons rfl (Sub.cons rfl (Sub.cons rfl (Sub.cons rfl (Sub.cons rfl (Sub.cons rfl (Sub.cons rfl (Sub.cons rfl (Sub.nil _))))))))))))
                                                    · (try dsimp only)
                                                      first | done | exact rfl
                                                · (try simp only [aG] at h15)
                                                  try (exfalso; first | contradiction | omega)
                                                  all_goals
                                                    refine ay (ah (aP rfl (aW rfl (aB (aj (aO rfl (fun h16 => ?_) (fun h16 => ?_)))))))
                                                    · (try simp only [aG] at h16)
                                                      try (exfalso; first | contradiction | omega)
                                                      all_goals
                                                        refine ah (aP rfl (aP rfl ?_))
                                                        obtain ⟨bv, ov, cv, ev⟩ := Rd.kN (hv _ (HL)) (by omega)
                                                        cases ev
                                                        refine aU (bV underlying22 sizeOf23 rfl rfl (by omega)) ?_
                                                        refine aU (dB (bG underlying23 rfl) rfl (by first | exact Rd.oV (hv _ (HL)) (by omega) | exact Rd.CQ (hv _ (HL)) (by omega) | exact Rd.BH (hv _ (HL)) (by omega))) ?_
                                                        refine oP (fun acm Xl => ?_)
                                                        refine aU (gK ((by rw [Xl]; exact he _ (by omega) _ (HL))) underlying23 rfl) ?_
                                                        refine aW rfl (aB (aH ?_))
                                                        refine dh (()) ?_ ?_ ?_
                                                        · exact (Sub.iP rfl (by simp_all) (Sub.nil _))
                                                        · exact (Sub.cons rfl (Sub.cons rfl (Sub.cons rfl (Sub.cons rfl (Sub.cons rfl (Sub.cons rfl (Sub.cons rfl (Sub.cons rfl (Sub.cons rfl (Sub.cons rfl (Sub.cons rfl (Sub.nil _))))))))))))
                                                        · (try dsimp only)
                                                          first | done | exact rfl
                                                    · (try simp only [aG] at h16)
                                                      try (exfalso; first | contradiction | omega)
                                                      all_goals
                                                        refine aQ (aH ?_)
                                                        refine dh (()) ?_ ?_ ?_
                                                        · exact (Sub.iP rfl (by simp_all) (Sub.nil _))
                                                        · exact (Sub.cons rfl (Sub.cons rfl (Sub.cons rfl (Sub.cons rfl (Sub.cons rfl (Sub.cons rfl (Sub.cons rfl (Sub.cons rfl (Sub.cons rfl (Sub.cons rfl (Sub.cons rfl (Sub.nil _))))))))))))
                                                        · (try dsimp only)
                                                          first | done | exact rfl
                                        · (try simp only [aG] at h10)
                                          try (exfalso; first | contradiction | omega)
                                          all_goals
                                            refine bK (bK (bn (jd rfl rfl (bn (aP rfl (bK (bK (bK (bK (bK (bK (bK (bn (jd rfl rfl (jd rfl rfl (aW rfl (aB (aj (pW (ay (ah (aP rfl (aP rfl (aU (iQ rfl rfl) (aW rfl (aB (aj (aO rfl (fun h17 => ?_) (fun h17 => ?_)))))))))))))))))))))))))))))
                                            · (try simp only [aG] at h17)
                                              try (exfalso; first | contradiction | omega)
                                              all_goals
                                                refine ah (aP rfl (aW rfl (aB (aH ?_))))
                                                refine dh (()) ?_ ?_ ?_
                                                · exact (Sub.iP rfl (by simp_all) (Sub.nil _))
                                                · exact (Sub.cons rfl (Sub.cons rfl (Sub.cons rfl (Sub.cons rfl (Sub.cons rfl (Sub.cons rfl (Sub.cons rfl (Sub.cons rfl (Sub.cons rfl (Sub.cons rfl (Sub.cons rfl (Sub.nil _))))))))))))
                                                · (try dsimp only)
                                                  first | done | exact rfl
                                            · (try simp only [aG] at h17)
                                              try (exfalso; first | contradiction | omega)
                                              all_goals
                                                refine ay (ah (aP rfl (aW rfl (aB (aj (aO rfl (fun h18 => ?_) (fun h18 => ?_)))))))
                                                · (try simp only [aG] at h18)
                                                  try (exfalso; first | contradiction | omega)
                                                  all_goals
                                                    refine ah (aP rfl (aP rfl ?_))
                                                    obtain ⟨bv, ov, cv, ev⟩ := Rd.kN (hv _ (HL)) (by omega)
                                                    cases ev
                                                    refine aU (bV underlying22 sizeOf23 rfl rfl (by omega)) ?_
                                                    refine aU (dB (bG underlying23 rfl) rfl (by first | exact Rd.oV (hv _ (HL)) (by omega) | exact Rd.CQ (hv _ (HL)) (by omega) | exact Rd.BH (hv _ (HL)) (by omega))) ?_
                                                    refine oP (fun abr U1 => ?_)
                                                    refine aU (gK ((by rw [U1]; exact he _ (by omega) _ (HL))) underlying23 rfl) ?_
                                                    refine aW rfl (aB (aH ?_))
                                                    refine dh (()) ?_ ?_ ?_
                                                    · exact (Sub.iP rfl (by simp_all) (Sub.nil _))
                                                    · exact (Sub.cons rfl (Sub.cons rfl (Sub.cons rfl (Sub.cons rfl (Sub.cons rfl (Sub.cons rfl (Sub.cons rfl (Sub.cons rfl (Sub.cons rfl (Sub.cons rfl (Sub.cons rfl (Sub.nil _))))))))))))
                                                    · (try dsimp only)
                                                      first | done | exact rfl
                                                · (try simp only [aG] at h18)
                                                  try (exfalso; first | contradiction | omega)
                                                  all_goals
                                                    refine aQ (aH ?_)
                                                    refine dh (()) ?_ ?_ ?_
                                                    · exact (Sub.iP rfl (by simp_all) (Sub.nil _))
                                                    · exact (Sub.cons rfl (Sub.cons rfl (Sub.cons rfl (Sub.cons rfl (Sub.cons rfl (Sub.cons rfl (Sub.cons rfl (Sub.cons rfl (Sub.cons rfl (Sub.cons rfl (Sub.cons rfl (Sub.nil _))))))))))))
                                                    · (try dsimp only)
                                                      first | done | exact rfl
                                · (try simp only [aG] at h8)
                                  try (exfalso; first | contradiction | omega)
                                  all_goals
                                    refine bK (bK (jd rfl rfl (aP rfl (bn (aP rfl (bn (aP rfl (bn (aU (iQ rfl rfl) (bn (jL rfl (fun h19 => ?_) (fun h19 => ?_))))))))))))
                                    · (try simp only [aG] at h19)
                                      try (exfalso; first | contradiction | omega)
                                      all_goals
                                        refine bn (aP rfl (bn (aU (jT rfl) (bn (jP rfl rfl (bn (jL rfl (fun h20 => ?_) (fun h20 => ?_))))))))
                                        · (try simp only [aG] at h20)
                                          try (exfalso; first | contradiction | omega)
                                          all_goals
                                            refine bn (aP rfl (bn (aP rfl (bn (aP rfl (bn ?_))))))
                                            obtain ⟨bv, ov, cv, ev⟩ := Rd.kN (hv _ (HL)) (by omega)
                                            cases ev
                                            refine aU (bV underlying22 sizeOf23 rfl rfl (by omega)) (bn ?_)
                                            refine aU (dB (bG underlying23 rfl) rfl (by first | exact Rd.oV (hv _ (HL)) (by omega) | exact Rd.CQ (hv _ (HL)) (by omega) | exact Rd.BH (hv _ (HL)) (by omega))) ?_
                                            refine oP (fun abt U2 => ?_)
                                            refine bn ?_
                                            refine aU (gK ((by rw [U2]; exact he _ (by omega) _ (HL))) underlying23 rfl) ?_
                                            refine bn (aU (gU rfl rfl) (bn (jP rfl rfl (jd rfl rfl (aW rfl (aB (aj (aO rfl (fun h21 => ?_) (fun h21 => ?_)))))))))
                                            · (try simp only [aG] at h21)
                                              try (exfalso; first | contradiction | omega)
                                              all_goals
                                                refine dK ?_
                                                refine kG (by decide) ?_
                                                refine aV (bD (aj (ah (aP rfl (aP rfl (aU (dR rfl rfl (by omega)) (aW rfl (aB ?_))))))))
                                                refine bZ (i + if back then -1 else 1) ?_ ?_ ?_ ?_
                                                · exact (Sub.cons rfl (Sub.nil _))
                                                · exact (Sub.cons rfl (Sub.cons rfl (Sub.cons rfl (Sub.cons rfl (Sub.cons rfl (Sub.cons rfl (Sub.nil _)))))))
                                                · (try dsimp only)
                                                  first | done | exact ⟨⟨by cases back <;> simp at * <;> omega, by cases back <;> simp at * <;> omega, by cases back <;> simp at * <;> omega, e1.trans (vH hi0 hil (by first | exact hno | exact xI (by simpa using ‹back = true›) (by omega) (by omega) | exact xJ (by simp_all) (by omega) (by omega)))⟩, HL⟩
                                                · cases back <;> simp <;> omega
                                            · (try simp only [aG] at h21)
                                              try (exfalso; first | contradiction | omega)
                                              all_goals
                                                refine ay (ah (aP rfl (aP rfl (aU (iQ rfl rfl) (aW rfl (aB (aj (aO rfl (fun h22 => ?_) (fun h22 => ?_)))))))))
                                                · (try simp only [aG] at h22)
                                                  try (exfalso; first | contradiction | omega)
                                                  all_goals
                                                    refine ah (aP rfl (aW rfl (aB (aH ?_))))
                                                    refine dh (()) ?_ ?_ ?_
                                                    · exact (Sub.iP rfl (by simp_all) (Sub.nil _))
                                                    · exact (Sub.cons rfl (Sub.cons rfl (Sub.cons rfl (Sub.cons rfl (Sub.cons rfl (Sub.cons rfl (Sub.cons rfl (Sub.cons rfl (Sub.cons rfl (Sub.cons rfl (Sub.cons rfl (Sub.nil _))))))))))))
                                                    · (try dsimp only)
                                                      first | done | exact rfl
                                                · (try simp only [aG] at h22)
                                                  try (exfalso; first | contradiction | omega)
                                                  all_goals
                                                    refine ay (ah (aP rfl (aW rfl (aB (aj (aO rfl (fun h23 => ?_) (fun h23 => ?_)))))))
                                                    · (try simp only [aG] at h23)
                                                      try (exfalso; first | contradiction | omega)
                                                      all_goals
                                                        refine ah (aP rfl (aP rfl (aU (bV underlying22 sizeOf23 rfl rfl (by omega)) ?_)))
                                                        refine aU (dB (bG underlying23 rfl) rfl (by first | exact Rd.oV (hv _ (HL)) (by omega) | exact Rd.CQ (hv _ (HL)) (by omega) | exact Rd.BH (hv _ (HL)) (by omega))) ?_
                                                        refine oP (fun abu U3 => ?_)
                                                        refine aU (gK ((by rw [U3]; exact he _ (by omega) _ (HL))) underlying23 rfl) ?_
                                                        refine aW rfl (aB (aH ?_))
                                                        refine dh (()) ?_ ?_ ?_
                                                        · exact (Sub.iP rfl (by simp_all) (Sub.nil _))
                                                        · exact (Sub.cons rfl (Sub.cons rfl (Sub.cons rfl (Sub.cons rfl (Sub.cons rfl (Sub.cons rfl (Sub.cons rfl (Sub.cons rfl (Sub.cons rfl (Sub.cons rfl (Sub.cons rfl (Sub.nil _))))))))))))
                                                        · (try dsimp only)
                                                          first | done | exact rfl
                                                    · (try simp only [aG] at h23)
                                                      try (exfalso; first | contradiction | omega)
                                                      all_goals
                                                        refine aQ (aH ?_)
                                                        refine dh (()) ?_ ?_ ?_
                                                        · exact (Sub.iP rfl (by simp_all) (Sub.nil _))
                                                        · exact (Sub.cons rfl (Sub.cons rfl (Sub.cons rfl (Sub.cons rfl (Sub.cons rfl (Sub.cons rfl (Sub.cons rfl (Sub.cons rfl (Sub.cons rfl (Sub.cons rfl (Sub.cons rfl (Sub.nil _))))))))))))
                                                        · (try dsimp only)
                                                          first | done | exact rfl
                                        · (try simp only [aG] at h20)
                                          try (exfalso; first | contradiction | omega)
                                          all_goals
                                            refine bK (bK (bK (bK (bK (bK (bK (bn (jd rfl rfl (jd rfl rfl (aW rfl (aB (aj (pW (ay (ah (aP rfl (aP rfl (aU (iQ rfl rfl) (aW rfl (aB (aj (aO rfl (fun h24 => ?_) (fun h24 => ?_)))))))))))))))))))))))
                                            · (try simp only [aG] at h24)
                                              try (exfalso; first | contradiction | omega)
                                              all_goals
                                                refine ah (aP rfl (aW rfl (aB (aH ?_))))
                                                refine dh (()) ?_ ?_ ?_
                                                · exact (Sub.iP rfl (by simp_all) (Sub.nil _))
                                                · exact (Sub.cons rfl (Sub.cons rfl (Sub.cons rfl (Sub.cons rfl (Sub.cons rfl (Sub.cons rfl (Sub.cons rfl (Sub.cons rfl (Sub.cons rfl (Sub.cons rfl (Sub.cons rfl (Sub.nil _))))))))))))
                                                · (try dsimp only)
                                                  first | done | exact rfl
                                            · (try simp only [aG] at h24)
                                              try (exfalso; first | contradiction | omega)
                                              all_goals
                                                refine ay (ah (aP rfl (aW rfl (aB (aj (aO rfl (fun h25 => ?_) (fun h25 => ?_)))))))
                                                · (try simp only [aG] at h25)
                                                  try (exfalso; first | contradiction | omega)
                                                  all_goals
                                                    refine ah (aP rfl (aP rfl ?_))
                                                    obtain ⟨bv, ov, cv, ev⟩ := Rd.kN (hv _ (HL)) (by omega)
                                                    cases ev
                                                    refine aU (bV underlying22 sizeOf23 rfl rfl (by omega)) ?_
                                                    refine aU (dB (bG underlying23 rfl) rfl (by first | exact Rd.oV (hv _ (HL)) (by omega) | exact Rd.CQ (hv _ (HL)) (by omega) | exact Rd.BH (hv _ (HL)) (by omega))) ?_
                                                    refine oP (fun abv U4 => ?_)
                                                    refine aU (gK ((by rw [U4]; exact he _ (by omega) _ (HL))) underlying23 rfl) ?_
                                                    refine aW rfl (aB (aH ?_))
                                                    refine dh (()) ?_ ?_ ?_
                                                    · exact (Sub.iP rfl (by simp_all) (Sub.nil _))
                                                    · exact (Sub.cons rfl (Sub.cons rfl (Sub.cons rfl (Sub.cons rfl (Sub.cons rfl (Sub.cons rfl (Sub.cons rfl (Sub.cons rfl (Sub.cons rfl (Sub.cons rfl (Sub.cons rfl (Sub.nil _))))))))))))
                                                    · (try dsimp only)
                                                      first | done | exact rfl
                                                · (try simp only [aG] at h25)
                                                  try (exfalso; first | contradiction | omega)
                                                  all_goals
                                                    refine aQ (aH ?_)
                                                    refine dh (()) ?_ ?_ ?_
                                                    · exact (Sub.iP rfl (by simp_all) (Sub.nil _))
                                                    · exact (Sub.cons rfl (Sub.cons rfl (Sub.cons rfl (Sub.cons rfl (Sub.cons rfl (Sub.cons rfl (Sub.cons rfl (Sub.cons rfl (Sub.cons rfl (Sub.cons rfl (Sub.cons rfl (Sub.nil _))))))))))))
                                                    · (try dsimp only)
                                                      first | done | exact rfl
                                    · (try simp only [aG] at h19)
                                      try (exfalso; first | contradiction | omega)
                                      all_goals
                                        refine bK (bK (bn (jd rfl rfl (bn (aP rfl (bK (bK (bK (bK (bK (bK (bK (bn (jd rfl rfl (jd rfl rfl (aW rfl (aB (aj (pW (ay (ah (aP rfl (aP rfl (aU (iQ rfl rfl) (aW rfl (aB (aj (aO rfl (fun h26 => ?_) (fun h26 => ?_)))))))))))))))))))))))))))))
                                        · (try simp only [aG] at h26)
                                          try (exfalso; first | contradiction | omega)
                                          all_goals
                                            refine ah (aP rfl (aW rfl (aB (aH ?_))))
                                            refine dh (()) ?_ ?_ ?_
                                            · exact (Sub.iP rfl (by simp_all) (Sub.nil _))
                                            · exact (Sub.cons rfl (Sub.cons rfl (Sub.cons rfl (Sub.cons rfl (Sub.cons rfl (Sub.cons rfl (Sub.cons rfl (Sub.cons rfl (Sub.cons rfl (Sub.cons rfl (Sub.cons rfl (Sub.nil _))))))))))))
                                            · (try dsimp only)
                                              first | done | exact rfl
                                        · (try simp only [aG] at h26)
                                          try (exfalso; first | contradiction | omega)
                                          all_goals
                                            refine ay (ah (aP rfl (aW rfl (aB (aj (aO rfl (fun h27 => ?_) (fun h27 => ?_)))))))
                                            · (try simp only [aG] at h27)
                                              try (exfalso; first | contradiction | omega)
                                              all_goals
                                                refine ah (aP rfl (aP rfl ?_))
                                                obtain ⟨bv, ov, cv, ev⟩ := Rd.kN (hv _ (HL)) (by omega)
                                                cases ev
                                                refine aU (bV underlying22 sizeOf23 rfl rfl (by omega)) ?_
                                                refine aU (dB (bG underlying23 rfl) rfl (by first | exact Rd.oV (hv _ (HL)) (by omega) | exact Rd.CQ (hv _ (HL)) (by omega) | exact Rd.BH (hv _ (HL)) (by omega))) ?_
                                                refine oP (fun abw U5 => ?_)
                                                refine aU (gK ((by rw [U5]; exact he _ (by omega) _ (HL))) underlying23 rfl) ?_
                                                refine aW rfl (aB (aH ?_))
                                                refine dh (()) ?_ ?_ ?_
                                                · exact (Sub.iP rfl (by simp_all) (Sub.nil _))
                                                · exact (Sub.cons rfl (Sub.cons rfl (Sub.cons rfl (Sub.cons rfl (Sub.cons rfl (Sub.cons rfl (Sub.cons rfl (Sub.cons rfl (Sub.cons rfl (Sub.cons rfl (Sub.cons rfl (Sub.nil _))))))))))))
                                                · (try dsimp only)
                                                  first | done | exact rfl
                                            · (try simp only [aG] at h27)
                                              try (exfalso; first | contradiction | omega)
                                              all_goals
                                                refine aQ (aH ?_)
                                                refine dh (()) ?_ ?_ ?_
                                                · exact (Sub.iP rfl (by simp_all) (Sub.nil _))
                                                · exact (Sub.cons rfl (Sub.cons rfl (Sub.cons rfl (Sub.cons rfl (Sub.cons rfl (Sub.cons rfl (Sub.cons rfl (Sub.cons rfl (Sub.cons rfl (Sub.cons rfl (Sub.cons rfl (Sub.nil _))))))))))))
                                                · (try dsimp only)
                                                  first | done | exact rfl
                            · (try simp only [aG] at h7)
                              try (exfalso; first | contradiction | omega)
                              all_goals
                                refine bK (jd rfl rfl (aP rfl (bK (bK (jd rfl rfl (aP rfl (bn (aP rfl (bn (aP rfl (bn (aU (iQ rfl rfl) (bn (jL rfl (fun h28 => ?_) (fun h28 => ?_)))))))))))))))
                                · (try simp only [aG] at h28)
                                  try (exfalso; first | contradiction | omega)
                                  all_goals
                                    refine bn (aP rfl (bn (aU (jT rfl) (bn (jP rfl rfl (bn (jL rfl (fun h29 => ?_) (fun h29 => ?_))))))))
                                    · (try simp only [aG] at h29)
                                      try (exfalso; first | contradiction | omega)
                                      all_goals
                                        refine bn (aP rfl (bn (aP rfl (bn (aP rfl (bn ?_))))))
                                        obtain ⟨bv, ov, cv, ev⟩ := Rd.kN (hv _ (HL)) (by omega)
                                        cases ev
                                        refine aU (bV underlying22 sizeOf23 rfl rfl (by omega)) (bn ?_)
                                        refine aU (dB (bG underlying23 rfl) rfl (by first | exact Rd.oV (hv _ (HL)) (by omega) | exact Rd.CQ (hv _ (HL)) (by omega) | exact Rd.BH (hv _ (HL)) (by omega))) ?_
                                        refine oP (fun abx U6 => ?_)
                                        refine bn ?_
                                        refine aU (gK ((by rw [U6]; exact he _ (by omega) _ (HL))) underlying23 rfl) ?_
                                        refine bn (aU (gU rfl rfl) (bn (jP rfl rfl (jd rfl rfl (aW rfl (aB (aj (aO rfl (fun h30 => ?_) (fun h30 => ?_)))))))))
                                        · (try simp only [aG] at h30)
                                          try (exfalso; first | contradiction | omega)
                                          all_goals
                                            refine dK ?_
                                            refine kG (by decide) ?_
                                            refine aV (bD (aj (ah (aP rfl (aP rfl (aU (dR rfl rfl (by omega)) (aW rfl (aB ?_))))))))
                                            refine bZ (i + if back then -1 else 1) ?_ ?_ ?_ ?_
                                            · exact (Sub.cons rfl (Sub.nil _))
                                            · exact (Sub.cons rfl (Sub.cons rfl (Sub.cons rfl (Sub.cons rfl (Sub.cons rfl (Sub.cons rfl (Sub.nil _)))))))
                                            · (try dsimp only)
                                              first | done | exact ⟨⟨by cases back <;> simp at * <;> omega, by cases back <;> simp at * <;> omega, by cases back <;> simp at * <;> omega, e1.trans (vH hi0 hil (by first | exact hno | exact xI (by simpa using ‹back = true›) (by omega) (by omega) | exact xJ (by simp_all) (by omega) (by omega)))⟩, HL⟩
                                            · cases back <;> simp <;> omega
                                        · (try simp only [aG] at h30)
                                          try (exfalso; first | contradiction | omega)
                                          all_goals
                                            refine ay (ah (aP rfl (aP rfl (aU (iQ rfl rfl) (aW rfl (aB (aj (aO rfl (fun h31 => ?_) (fun h31 => ?_)))))))))
                                            · (try simp only [aG] at h31)
                                              try (exfalso; first | contradiction | omega)
                                              all_goals
                                                refine ah (aP rfl (aW rfl (aB (aH ?_))))
                                                refine dh (()) ?_ ?_ ?_
                                                · exact (Sub.iP rfl (by simp_all) (Sub.nil _))
                                                · exact (Sub.cons rfl (Sub.cons rfl (Sub.cons rfl (Sub.cons rfl (Sub.cons rfl (Sub.cons rfl (Sub.cons rfl (Sub.cons rfl (Sub.cons rfl (Sub.cons rfl (Sub.cons rfl (Sub.nil _))))))))))))
                                                · (try dsimp only)
                                                  first | done | exact rfl
                                            · (try simp only [aG] at h31)
                                              try (exfalso; first | contradiction | omega)
                                              all_goals
                                                refine ay (ah (aP rfl (aW rfl (aB (aj (aO rfl (fun h32 => ?_) (fun h32 => ?_)))))))
                                                · (try simp only [aG] at h32)
                                                  try (exfalso; first | contradiction | omega)
                                                  all_goals
                                                    refine ah (aP rfl (aP rfl (aU (bV underlying22 sizeOf23 rfl rfl (by omega)) ?_)))
                                                    refine aU (dB (bG underlying23 rfl) rfl (by first | exact Rd.oV (hv _ (HL)) (by omega) | exact Rd.CQ (hv _ (HL)) (by omega) | exact Rd.BH (hv _ (HL)) (by omega))) ?_
                                                    refine oP (fun aby U7 => ?_)
                                                    refine aU (gK ((by rw [U7]; exact he _ (by omega) _ (HL))) underlying23 rfl) ?_
                                                    refine aW rfl (aB (aH ?_))
                                                    refine dh (()) ?_ ?_ ?_
                                                    · exact (Sub.iP rfl (by simp_all) (Sub.nil _))
                                                    · exact (Sub.cons rfl (Sub.cons rfl (Sub.cons rfl (Sub.cons rfl (Sub.cons rfl (Sub.cons rfl (Sub.cons rfl (Sub.cons rfl (Sub.cons rfl (Sub.cons rfl (Sub.cons rfl (Sub.nil _))))))))))))
                                                    · (try dsimp only)
                                                      first | done | exact rfl
                                                · (try simp only [aG] at h32)
                                                  try (exfalso; first | contradiction | omega)
                                                  all_goals
                                                    refine aQ (aH ?_)
                                                    refine dh (()) ?_ ?_ ?_
                                                    · exact (Sub.iP rfl (by simp_all) (Sub.nil _))
                                                    · exact (Sub.cons rfl (Sub.cons rfl (Sub.cons rfl (Sub.cons rfl (Sub.cons rfl (Sub.cons rfl (Sub.cons rfl (Sub.cons rfl (Sub.cons rfl (Sub.cons rfl (Sub.cons rfl (Sub.nil _))))))))))))
                                                    · (try dsimp only)
                                                      first | done | exact rfl
                                    · (try simp only [aG] at h29)
                                      try (exfalso; first | contradiction | omega)
                                      all_goals
                                        refine bK (bK (bK (bK (bK (bK (bK (bn (jd rfl rfl (jd rfl rfl (aW rfl (aB (aj (pW (ay (ah (aP rfl (aP rfl (aU (iQ rfl rfl) (aW rfl (aB (aj (aO rfl (fun h33 => ?_) (fun h33 => ?_)))))))))))))))))))))))
                                        · (try simp only [aG] at h33)
                                          try (exfalso; first | contradiction | omega)
                                          all_goals
                                            refine ah (aP rfl (aW rfl (aB (aH ?_))))
                                            refine dh (()) ?_ ?_ ?_
                                            · exact (Sub.iP rfl (by simp_all) (Sub.nil _))
                                            · exact (Sub.cons rfl (Sub.cons rfl (Sub.cons rfl (Sub.cons rfl (Sub.cons rfl (Sub.cons rfl (Sub.cons rfl (Sub.cons rfl (Sub.cons rfl (Sub.cons rfl (Sub.cons rfl (Sub.nil _))))))))))))
                                            · (try dsimp only)
                                              first | done | exact rfl
                                        · (try simp only [aG] at h33)
                                          try (exfalso; first | contradiction | omega)
                                          all_goals
                                            refine ay (ah (aP rfl (aW rfl (aB (aj (aO rfl (fun h34 => ?_) (fun h34 => ?_)))))))
                                            · (try simp only [aG] at h34)
                                              try (exfalso; first | contradiction | omega)
                                              all_goals
                                                refine ah (aP rfl (aP rfl ?_))
                                                obtain ⟨bv, ov, cv, ev⟩ := Rd.kN (hv _ (HL)) (by omega)
                                                cases ev
                                                refine aU (bV underlying22 sizeOf23 rfl rfl (by omega)) ?_
                                                refine aU (dB (bG underlying23 rfl) rfl (by first | exact Rd.oV (hv _ (HL)) (by omega) | exact Rd.CQ (hv _ (HL)) (by omega) | exact Rd.BH (hv _ (HL)) (by omega))) ?_
                                                refine oP (fun abz U8 => ?_)
                                                refine aU (gK ((by rw [U8]; exact he _ (by omega) _ (HL))) underlying23 rfl) ?_
                                                refine aW rfl (aB (aH ?_))
                                                refine dh (()) ?_ ?_ ?_
                                                · exact (Sub.iP rfl (by simp_all) (Sub.nil _))
                                                · exact (Sub.cons rfl (Sub.cons rfl (Sub.cons rfl (Sub.cons rfl (Sub.cons rfl (Sub.cons rfl (Sub.cons rfl (Sub.cons rfl (Sub.cons rfl (Sub.cons rfl (Sub.cons rfl (Sub.nil _))))))))))))
                                                · (try dsimp only)
                                                  first | done | exact rfl
                                            · (try simp only [aG] at h34)
                                              try (exfalso; first | contradiction | omega)
                                              all_goals
                                                refine aQ (aH ?_)
                                                refine dh (()) ?_ ?_ ?_
                                                · exact (Sub.iP rfl (by simp_all) (Sub.nil _))
                                                · exact (Sub.cons rfl (Sub.cons rfl (Sub.cons rfl (Sub.cons rfl (Sub.cons rfl (Sub.cons rfl (Sub.cons rfl (Sub.cons rfl (Sub.cons rfl (Sub.cons rfl (Sub.cons rfl (Sub.nil _))))))))))))
                                                · (try dsimp only)
                                                  first | done | exact rfl
                                · (try simp only [aG] at h28)
                                  try (exfalso; first | contradiction | omega)
                                  all_goals
                                    refine bK (bK (bn (jd rfl rfl (bn (aP rfl (bK (bK (bK (bK (bK (bK (bK (bn (jd rfl rfl (jd rfl rfl (aW rfl (aB (aj (pW (ay (ah (aP rfl (aP rfl (aU (iQ rfl rfl) (aW rfl (aB (aj (aO rfl (fun h35 => ?_) (fun h35 => ?_)))))))))))))))))))))))))))))
                                    · (try simp only [aG] at h35)
                                      try (exfalso; first | contradiction | omega)
                                      all_goals
                                        refine ah (aP rfl (aW rfl (aB (aH ?_))))
                                        refine dh (()) ?_ ?_ ?_
                                        · exact (Sub.iP rfl (by simp_all) (Sub.nil _))
                                        · exact (Sub.cons rfl (Sub.cons rfl (Sub.cons rfl (Sub.cons rfl (Sub.cons rfl (Sub.cons rfl (Sub.cons rfl (Sub.cons rfl (Sub.cons rfl (Sub.cons rfl (Sub.cons rfl (Sub.nil _))))))))))))
                                        · (try dsimp only)
                                          first | done | exact rfl
                                    · (try simp only [aG] at h35)
                                      try (exfalso; first | contradiction | omega)
                                      all_goals
                                        refine ay (ah (aP rfl (aW rfl (aB (aj (aO rfl (fun h36 => ?_) (fun h36 => ?_)))))))
                                        · (try simp only [aG] at h36)
                                          try (exfalso; first | contradiction | omega)
                                          all_goals
                                            refine ah (aP rfl (aP rfl ?_))
                                            obtain ⟨bv, ov, cv, ev⟩ := Rd.kN (hv _ (HL)) (by omega)
                                            cases ev
                                            refine aU (bV underlying22 sizeOf23 rfl rfl (by omega)) ?_
                                            refine aU (dB (bG underlying23 rfl) rfl (by first | exact Rd.oV (hv _ (HL)) (by omega) | exact Rd.CQ (hv _ (HL)) (by omega) | exact Rd.BH (hv _ (HL)) (by omega))) ?_
                                            refine oP (fun abA U9 => ?_)
                                            refine aU (gK ((by rw [U9]; exact he _ (by omega) _ (HL))) underlying23 rfl) ?_
                                            refine aW rfl (aB (aH ?_))
                                            refine dh (()) ?_ ?_ ?_
                                            · exact (Sub.iP rfl (by simp_all) (Sub.nil _))
                                            · exact (Sub.cons rfl (Sub.cons rfl (Sub.cons rfl (Sub.cons rfl (Sub.cons rfl (Sub.cons rfl (Sub.cons rfl (Sub.cons rfl (Sub.cons rfl (Sub.cons rfl (Sub.cons rfl (Sub.nil _))))))))))))
                                            · (try dsimp only)
                                              first | done | exact rfl
                                        · (try simp only [aG] at h36)
                                          try (exfalso; first | contradiction | omega)
                                          all_goals
                                            refine aQ (aH ?_)
                                            refine dh (()) ?_ ?_ ?_
                                            · exact (Sub.iP rfl (by simp_all) (Sub.nil _))
                                            · exact (Sub.cons rfl (Sub.cons rfl (Sub.cons rfl (Sub.cons rfl (Sub.cons rfl (Sub.cons rfl (Sub.cons rfl (Sub.cons rfl (Sub.cons rfl (Sub.cons rfl (Sub.cons rfl (Sub.nil _))))))))))))
                                            · (try dsimp only)
                                              first | done | exact rfl
                      · (try simp only [aG] at h5)
                        try (exfalso; first | contradiction | omega)
                        all_goals
                          refine dK (aV (aV (bD (aj (ay (ah (aW rfl (aW rfl (aW rfl (aB (aj (aN ?_))))))))))))
                          refine lK ?_
                          refine xO (.inl rfl) results7 rfl rfl rfl ?_
                          exact ⟨by rw [e1, EU (by omega) hbk hfw], HL⟩
                  · (try simp only [aG] at h4)
                    try (exfalso; first | contradiction | omega)
                    all_goals
                      refine bK (bK (bK (bK (jd rfl rfl (aB (aj (pW (dK (aV (aV (bD (aj (ay (ah (aW rfl (aW rfl (aW rfl (aB (aj (aN ?_))))))))))))))))))))
                      refine lK ?_
                      refine xO (.inl rfl) results7 rfl rfl rfl ?_
                      exact ⟨by rw [e1, EU (by omega) hbk hfw], HL⟩
                · skip
                  refine Tt ?_
                  refine dh (()) ?_ ?_ ?_
                  · exact (Sub.iP rfl (by simp_all) (Sub.nil _))
                  · exact (Sub.cons rfl (Sub.cons rfl (Sub.cons rfl (Sub.cons rfl (Sub.cons rfl (Sub.nil _))))))
                  · (try dsimp only)
                    first | done | exact rfl
              · skip
                refine ay (ah (aP rfl (aB (aj (aO rfl (fun h37 => ?_) (fun h37 => ?_))))))
                · (try simp only [aG] at h37)
                  try (exfalso; first | contradiction | omega)
                  all_goals
                    refine ah (aW rfl (aB ?_))
                    refine dh (()) ?_ ?_ ?_
                    · exact (Sub.iP rfl (by simp_all) (Sub.nil _))
                    · exact (Sub.cons rfl (Sub.cons rfl (Sub.cons rfl (Sub.cons rfl (Sub.cons rfl (Sub.nil _))))))
                    · (try dsimp only)
                      first | done | exact rfl
                · (try simp only [aG] at h37)
                  try (exfalso; first | contradiction | omega)
                  all_goals
                    refine aQ ?_
                    refine dh (()) ?_ ?_ ?_
                    · exact (Sub.iP rfl (by simp_all) (Sub.nil _))
                    · exact (Sub.cons rfl (Sub.cons rfl (Sub.cons rfl (Sub.cons rfl (Sub.cons rfl (Sub.nil _))))))
                    · (try dsimp only)
                      first | done | exact rfl
end
end Go.Proofs.YtddekefihgejoaaGreatDoor
end
