import Derived.Test.YtddekefihgejoaaGreatDoorZ2
import Derived.Test.YtddekefihgejoaaGreatDoorZ20
import Derived.Test.YtddekefihgejoaaGreatDoorCards
import Derived.Test.YtddekefihgejoaaGreatDoorZ5
import Derived.SevenTiedAt
set_option linter.unusedSimpArgs false
set_option linter.unusedVariables false
/- An editor and a search that no call made answer as the document says: IsearchNone in its first form, as the card states it, for whatever the program's variables hold as its text lays them. No condition beside the form's own.
Texts of mine, joined, their names in short: LawIsNone HasIsNone. -/
section
namespace Go.Proofs.YtddekefihgejoaaGreatDoor
open Go.RowKit
open _root_.Go.Proofs.Tryz
def Nw : List Value := [.pointer none, .pointer none, .pointer none, .map none, .int .i64 0, .bool false, .int .i64 0, .int .i64 0, .int .i64 0, .int .i64 0, .bool false, .pointer none, .pointer none, .bool false, .bool false, .int .i64 0, .bool false, .pointer none, .pointer none, .pointer none, .map none, .int .i64 0, .bool false, .int .i64 0, .int .i64 0, .int .i64 0, .int .i64 0, .bool false, .int .i64 0, .bool false, .bool false, .bool false, .bool false, .slice none 0 0]
def Sm : List Value := [.slice none 0 0, .slice none 0 0, .slice none 0 0, .bool false, .bool false, .int .i64 0, .int .i64 0, .int .i64 0, .slice none 0 0]
theorem Wj (W : World) (sz : Nat) : Rd W sz (.slice none 0 0) 0 [] := ⟨by simp, none, 0, rfl, by omega, by decide, fun h => absurd h (by omega)⟩
theorem Ho {w : World} {rv : Value} {l : List Int} {bk : Bool} (hT : tZ w) (g : iV w .i32 rv l) :
    fE prog 6 #[rv, .bool bk] w fun v w' => v = .bool true ∧ Below w.heap.size w w' := by
  obtain ⟨F, H⟩ : ∃ F, aB w w F := ⟨_, aB.start w⟩
  have hv : iT w F .i32 rv l := iT.Ig g F
  have hr1 : rv.oneCell' = true := Rd.one g
  refine gy func6 ntmps6 ?_
  dsimp only [aY, Nat.reduceAdd]
  refine ay (ah (aV rfl (aA (aj (ay (ay (ah (dw rfl func9 (OZ H hT) ?_))))))))
  rintro _ w1 ⟨rfl, H1⟩
  refine aU (kJ rfl) (aA (aj (pJ (aT (aj (ay (ay (ah (aU (cO (zl := [.pointer none, .pointer none, .pointer none, .map none, .int .i64 0, .bool false, .int .i64 0, .int .i64 0, .int .i64 0, .int .i64 0, .bool false, .pointer none, .pointer none, .bool false, .bool false, .int .i64 0, .bool false, .pointer none, .pointer none, .pointer none, .map none, .int .i64 0, .bool false, .int .i64 0, .int .i64 0, .int .i64 0, .int .i64 0, .bool false, .int .i64 0, .bool false, .bool false, .bool false, .bool false, .slice none 0 0]) (pl := [(0, 11), (11, 1), (12, 1), (13, 1), (14, 1), (15, 1), (16, 1), (17, 11), (28, 1), (29, 1), (30, 1), (31, 1), (32, 1), (33, 1)]) [_, _, _, _, _, _, _, _, _, _, _, _, _, _, _, _, _, _, _, _, _, _, _, _, _, _, _, _, _, _, _, _, _, _] underlying69 zeroValue69 rfl (fun w => by kernel_rfl) rfl (.zero (zs := [.pointer none, .pointer none, .pointer none, .map none, .int .i64 0, .bool false, .int .i64 0, .int .i64 0, .int .i64 0, .int .i64 0, .bool false]) rfl (.zero (zs := [.pointer none]) rfl (.zero (zs := [.pointer none]) rfl (.zero (zs := [.bool false]) rfl (.zero (zs := [.bool false]) rfl (.zero (zs := [.int .i64 0]) rfl (.zero (zs := [.bool false]) rfl (.zero (zs := [.pointer none, .pointer none, .pointer none, .map none, .int .i64 0, .bool false, .int .i64 0, .int .i64 0, .int .i64 0, .int .i64 0, .bool false]) rfl (.zero (zs := [.int .i64 0]) rfl (.zero (zs := [.bool false]) rfl (.zero (zs := [.bool false]) rfl (.zero (zs := [.bool false]) rfl (.zero (zs := [.bool false]) rfl (.zero (zs := [.slice none 0 0]) rfl .nil)))))))))))))) rfl) (gq (iw (l := [_, _, _, _, _, _, _, _, _, _, _, _, _, _, _, _, _, _, _, _, _, _, _, _, _, _, _, _, _, _, _, _, _, _]) H1 rfl rfl) ?_))))))))))
  rintro _ w2 ⟨b2, rfl, H2⟩
  refine gq (iK (vs := [.pointer none, _]) H2 underlying70 sizeOf30 zeroValue30 rfl rfl rfl (by decide) (aC (by first | rfl | assumption) (aC (by first | rfl | assumption) aZ))) ?_
  rintro l3 w3 H3
  refine aU (fM ((H3).aO) underlying70 rfl) (aN rfl (aA (aj (bf ?_))))
  refine fH [(0, _), (1, _), (17, _), (18, _)] (fun (k : Nat) => [(19, .int .i64 (k : Int))]) (fun (k : Nat) W => k ≤ 2 ∧ aB w W (Row 30 1 l3 2 [.pointer none, .pointer (some ⟨b2, 0, none⟩)] • bY b2 (.cells Nw.toArray 69 (0, 0)) • F)) (fun (k : Nat) => 2 - k) (0) (Sub.cons rfl (Sub.cons rfl (Sub.cons rfl (Sub.cons rfl (Sub.nil _))))) (Sub.cons rfl (Sub.nil _)) ⟨by omega, H3.f2.f2⟩ ?_
  rintro k w4 ⟨hk, HL⟩
  dsimp only [List.cons_append, List.nil_append]
  refine ay (ah (aU (eu rfl rfl) (aA (aj (ay (aP rfl (fun h1 => ?_) (fun h1 => ?_)))))))
  · (try simp only [aI] at h1)
    refine aT (aj (ay (bf (ay (ah ?_)))))
    obtain ⟨bl3, ol3, cl3, el3⟩ := Rd.lD ((HL).aO) (by omega)
    cases el3
    refine aU (cZ underlying70 sizeOf30 rfl rfl (by omega)) ?_
    refine aU (fJ (bW underlying30 rfl) rfl (by first | exact Rd.pX ((HL).aO) (by omega) | exact Rd.Es ((HL).aO) (by omega) | exact Rd.CY ((HL).aO) (by omega))) ?_
    refine aV rfl (aA (aj (ay ?_)))
    have hk2 : k < 2 := by omega
    have hu : wY w (bY b2 (.cells Nw.toArray 69 (0, 0)) • F) ([Value.pointer none, .pointer (some ⟨b2, 0, none⟩)].getD k undef) := by
      rcases (show k = 0 ∨ k = 1 from by omega) with rfl | rfl
      · exact fun G W HW => Jv
      · exact fun G W HW => Ld HW.swap rfl
    refine ah (aN rfl (aN rfl (aN rfl (dw rfl func17 (O5 HL.f2.f2 hu) ?_))))
    rintro _ _ ⟨rfl, rfl⟩
    refine aN rfl (yA rfl rfl (yA rfl rfl (aV rfl (aV rfl (aA (aj (ay (ah (aN rfl (aU (uS underlying46 rfl rfl) (jy rfl (fun h => by exfalso; (try simp only [aI] at h); simp at h) (fun h2 => ?_))))))))))))
    (try simp only [aI] at h2)
    refine bC (aN rfl (bC (aU (dZ rfl rfl) (iU rfl rfl (jy rfl (fun h => by exfalso; (try simp only [aI] at h); simp at h) (fun h3 => ?_))))))
    (try simp only [aI] at h3)
    refine bC (aN rfl (bC (dw rfl func13 (sK HL.f2.f2 hu) ?_)))
    rintro _ _ ⟨rfl, rfl⟩
    refine bC (aU (iZ underlying22 rfl) (bC (aU (dZ rfl rfl) (iU rfl rfl (jy rfl (fun h => by exfalso; (try simp only [aI] at h); simp at h) (fun h4 => ?_))))))
    (try simp only [aI] at h4)
    refine bC (aN rfl (bC (aN rfl (bC (aN rfl (bC (dw rfl func24 (JR HL.f2.f2 hu hr1) ?_)))))))
    rintro _ w7 ⟨rfl, H7⟩
    refine bC (aU (dZ rfl rfl) (iU rfl rfl (jy rfl (fun h => by exfalso; (try simp only [aI] at h); simp at h) (fun h5 => ?_))))
    (try simp only [aI] at h5)
    refine bC (aN rfl (bC (aN rfl (bC (dw rfl func25 (Hf H7.f2.f2 hu) ?_)))))
    rintro _ w8 ⟨rfl, H8⟩
    refine bC (aU (dZ rfl rfl) (iU rfl rfl (aA (aj (aP rfl (fun h => by exfalso; (try simp only [aI] at h); simp at h) (fun h6 => ?_))))))
    (try simp only [aI] at h6)
    refine aT (aH (aj (ah (aU (dS rfl rfl (by omega)) (aN rfl (aA ?_))))))
    refine dA (k + 1) ?_ ?_ ?_ ?_
    · exact (Sub.cons rfl (Sub.nil _))
    · exact (Sub.cons rfl (Sub.cons rfl (Sub.cons rfl (Sub.cons rfl (Sub.nil _)))))
    · (try dsimp only)
      first | done | exact ⟨by omega, H8.f2.f2⟩
    · (try dsimp only); omega
  · (try simp only [aI] at h1)
    refine dL (aW (aW (bD (aj (ay (ay ?_))))))
    have WI := HL.right
    have aa5 := WI.right
    refine ah (aU (cO (zl := [.slice none 0 0, .slice none 0 0, .slice none 0 0, .bool false, .bool false, .int .i64 0, .int .i64 0, .int .i64 0, .slice none 0 0]) (pl := [(0, 1), (1, 1), (2, 6), (8, 1)]) [_, _, _, _, _, _, _, _, _] underlying75 zeroValue75 rfl (fun w => by kernel_rfl) rfl (.zero (zs := [.slice none 0 0]) rfl (.zero (zs := [.slice none 0 0]) rfl (.zero (zs := [.slice none 0 0, .bool false, .bool false, .int .i64 0, .int .i64 0, .int .i64 0]) rfl (.zero (zs := [.slice none 0 0]) rfl .nil)))) rfl) (gq (iw (l := [_, _, _, _, _, _, _, _, _]) aa5 rfl rfl) ?_))
    rintro _ Hr ⟨b11, rfl, uQ⟩
    refine gq (iK (vs := [.pointer none, _]) uQ underlying76 sizeOf46 zeroValue46 rfl rfl rfl (by decide) (aC (by first | rfl | assumption) (aC (by first | rfl | assumption) aZ))) ?_
    rintro l12 w12 uf
    refine aU (fM ((uf).aO) underlying76 rfl) (aN rfl (aA (aj (bf ?_))))
    refine fH [(0, _), (1, _), (58, _), (59, _)] (fun (j : Nat) => [(60, .int .i64 (j : Int))]) (fun (j : Nat) W => j ≤ 2 ∧ aB w W (Row 46 1 l12 2 [.pointer none, .pointer (some ⟨b11, 0, none⟩)] • bY b11 (.cells Sm.toArray 75 (0, 0)) • F)) (fun (j : Nat) => 2 - j) (0) (Sub.cons rfl (Sub.cons rfl (Sub.cons rfl (Sub.cons rfl (Sub.nil _))))) (Sub.cons rfl (Sub.nil _)) ⟨by omega, uf.f2.f2⟩ ?_
    rintro j NY ⟨hj, HJ⟩
    dsimp only [List.cons_append, List.nil_append]
    refine ay (ah (aU (eu rfl rfl) (aA (aj (ay (aP rfl (fun h7 => ?_) (fun h7 => ?_)))))))
    · (try simp only [aI] at h7)
      refine aT (aj (ay (bf (ay (ah ?_)))))
      obtain ⟨aco, acp, acq, aa6⟩ := Rd.lD ((HJ).aO) (by omega)
      cases aa6
      refine aU (cZ underlying76 sizeOf46 rfl rfl (by omega)) ?_
      refine aU (fJ (bW underlying46 rfl) rfl (by first | exact Rd.pX ((HJ).aO) (by omega) | exact Rd.Es ((HJ).aO) (by omega) | exact Rd.CY ((HJ).aO) (by omega))) ?_
      refine aV rfl (aA (aj (ay ?_)))
      have hj2 : j < 2 := by omega
      have hu : qF w (bY b11 (.cells Sm.toArray 75 (0, 0)) • F) ([Value.pointer none, .pointer (some ⟨b11, 0, none⟩)].getD j undef) := by
        rcases (show j = 0 ∨ j = 1 from by omega) with rfl | rfl
        · exact fun G W HW => O4
        · exact fun G W HW => LW HW.swap rfl
      refine ah (aN rfl (dw rfl func19 (JU HJ.f2.f2 hu) ?_))
      rintro _ NZ ⟨rfl, yB⟩
      refine aN rfl (dw rfl func20 (LX yB.f2.f2 hu) ?_)
      rintro _ PY ⟨rfl, wC⟩
      refine gq (bU (l := [_, _, _, _, _, _]) wC zeroValue52 rfl) ?_
      rintro _ w16 ⟨b16, rfl, qY⟩
      refine gq (bU (l := [_, _, _]) qY zeroValue41 rfl) ?_
      rintro _ Tz ⟨b17, rfl, yC⟩
      refine aG (bn 0 (l' := [_, _, _, _, _, _]) (us := [_, _, _, _, _, _]) yC.f2 sizeOf52 rfl rfl rfl (aC (by first | rfl | assumption) (aC (by first | rfl | assumption) (aC (by first | rfl | assumption) (aC (by first | rfl | assumption) (aC (by first | rfl | assumption) (aC (by first | rfl | assumption) aZ)))))) rfl rfl) ?_
      rintro _ Sv zB
      refine aG (bn 0 (l' := [_, _, _]) (us := [_, _, _]) zB.f2 sizeOf41 rfl rfl rfl (aC (by first | rfl | assumption) (aC (by first | rfl | assumption) (aC (by first | rfl | assumption) aZ))) rfl rfl) ?_
      rintro _ PZ uY
      refine aA (aj (ay (ah (aN rfl (aN rfl (dw rfl func18 (O6 uY.right.right.f2.f2 hu) ?_))))))
      rintro _ _ ⟨rfl, rfl⟩
      refine aU (dZ rfl rfl) (jy rfl (fun h => by exfalso; (try simp only [aI] at h); simp at h) (fun h8 => ?_))
      (try simp only [aI] at h8)
      refine bC (aN rfl (bC (aN rfl (bC (dw rfl func26 (JV uY.right.right.f2.f2 hu) ?_)))))
      rintro _ _ ⟨rfl, rfl⟩
      refine bC (aU (dZ rfl rfl) (iU rfl rfl (jy rfl (fun h => by exfalso; (try simp only [aI] at h); simp at h) (fun h9 => ?_))))
      (try simp only [aI] at h9)
      refine bC (aN rfl (bC (dw rfl func21 (LY uY.right.right.f2.f2 hu) ?_)))
      rintro _ _ ⟨rfl, rfl⟩
      refine bC (aU (dZ rfl rfl) (iU rfl rfl (jy rfl (fun h => by exfalso; (try simp only [aI] at h); simp at h) (fun h10 => ?_))))
      (try simp only [aI] at h10)
      refine bC (aN rfl (bC (aU (cO (zl := [.slice none 0 0, .slice none 0 0, .int .i64 0, .slice none 0 0, .int .i64 0]) (pl := [(0, 1), (1, 1), (2, 1), (3, 1), (4, 1)]) [_, _, _, _, _] underlying26 zeroValue26 rfl (fun w => by kernel_rfl) rfl (.zero (zs := [.slice none 0 0]) rfl (.zero (zs := [.slice none 0 0]) rfl (.zero (zs := [.int .i64 0]) rfl (.zero (zs := [.slice none 0 0]) rfl (.zero (zs := [.int .i64 0]) rfl .nil))))) rfl) (bC (dw rfl func10 (FN (l := []) (ln := []) (ty := []) uY (fun W _ => Wj W 2) (fun W _ => iV.nil W _ none 0 (by decide)) (fun W _ => iV.nil W _ none 0 (by decide)) (by decide) (by rfl) (by decide) hT (fun n hn => by cases hn)) ?_)))))
      rintro _ O7 ⟨eM, rfl, rV⟩
      refine bC (dw rfl func27 (Hg rV.right.right.right.f2.f2 hu) ?_)
      rintro _ _ ⟨rfl, rfl⟩
      refine bC (aU (dZ rfl rfl) (iU rfl rfl (jy rfl (fun h => by exfalso; (try simp only [aI] at h); simp at h) (fun h11 => ?_))))
      (try simp only [aI] at h11)
      refine bC (aN rfl (bC (dw rfl func28 (Hl rV.right.right.right.f2.f2 hu) ?_)))
      rintro _ _ ⟨rfl, rfl⟩
      refine bC (aU (iZ underlying23 rfl) (bC (aU (dZ rfl rfl) (iU rfl rfl (jy rfl (fun h => by exfalso; (try simp only [aI] at h); simp at h) (fun h12 => ?_))))))
      (try simp only [aI] at h12)
      refine bC (bg 0 underlying41 rfl sizeOf23 rfl (bC (dO underlying23 rfl (rV.f2).get.2 rfl (bC (aU (iZ underlying23 rfl) (bC (aU (dZ rfl rfl) (iU rfl rfl (jy rfl (fun h => by exfalso; (try simp only [aI] at h); simp at h) (fun h13 => ?_))))))))))
      (try simp only [aI] at h13)
      refine bC (bg 5 underlying52 rfl sizeOf3 rfl (bC (dO underlying3 rfl (rV.f3).get.2 rfl (bC (aU (dZ rfl rfl) (iU rfl rfl (jy rfl (fun h => by exfalso; (try simp only [aI] at h); simp at h) (fun h14 => ?_))))))))
      (try simp only [aI] at h14)
      refine bC (aN rfl (bC (dw rfl func29 (JW rV.right.right.right.f2.f2 hu) ?_)))
      rintro _ _ ⟨rfl, rfl⟩
      refine bC (aU (uS underlying46 rfl rfl) (iU rfl rfl (aA (aj (aP rfl (fun h => by exfalso; (try simp only [aI] at h); simp at h) (fun h15 => ?_))))))
      (try simp only [aI] at h15)
      refine aT (aH (aj (ah (aU (dS rfl rfl (by omega)) (aN rfl (aA ?_))))))
      refine dA (j + 1) ?_ ?_ ?_ ?_
      · exact (Sub.cons rfl (Sub.nil _))
      · exact (Sub.cons rfl (Sub.cons rfl (Sub.cons rfl (Sub.cons rfl (Sub.nil _)))))
      · (try dsimp only)
        first | done | exact ⟨by omega, rV.right.right.right.f2.f2⟩
      · (try dsimp only); omega
    · (try simp only [aI] at h7)
      refine dL (aW (aW (bD (aj (ay (ah (aV rfl (aA (aj (aJ (aQ (.inl rfl) results6 rfl ?_)))))))))))
      exact ⟨rfl, HJ.base⟩
end Go.Proofs.YtddekefihgejoaaGreatDoor
end
section
namespace Go.Proofs.YtddekefihgejoaaGreatDoor
open Go.ChangeShapes Go.WideShapes Go.ChangeAt Go.RowKit
set_option maxRecDepth 100000 in
theorem yw (os : Os) (started : os.Started) (H : Type) (enc : TypeId × Value → H) :
    ReturnsInHanded {} Tryz.checked os 6 .any (fun w args => (Rows.isearchNoneSpec.pre enc Tryz.prog Tryz.f6 Rows.isearchNoneRow.domain false w args ∧ laidMetH Tryz.prog CW w) ∧ sizedMet enc Tryz.prog Tryz.f6 (OpenSpec.ofChange Rows.isearchNoneSpec) false w args) (Rows.isearchNoneSpec.post enc Tryz.prog Tryz.f6 false true false false) := by
  refine Ey (C := Tryz.checked) (tb := 4) _ own laid started (by kernel_rfl) Tryz.func6 (congrArg Array.toList Tryz.params6) rfl Tryz.underlying4 rfl (by kernel_rfl) (fun ds hd => ?_)
    (ChangeSpec.witness_shaped (enc := enc) (C := Tryz.checked) (os := os) (X := fun w _ => laidMetH Tryz.prog CW w) false (World.laidAll Tryz.prog os CW) #[.slice none 0 0, .bool false] 8 (World.laidAll_os _ _ _) (World.shaped_of_ZipB (by kernel_rfl) (by kernel_rfl)) (by kernel_rfl) (by kernel_rfl) (by kernel_rfl) (Pz os _)) ?_
  · obtain ⟨a0, a1, rfl⟩ := Tc hd
    rfl
  intro W args hL hin
  have hT := Tf hL
  obtain ⟨v1, v2, rfl, ⟨⟨_, o1⟩, i1⟩, ⟨⟨_, o2⟩, i2⟩⟩ := hin.two
  obtain ⟨a1, n1, c1, rfl⟩ := okWide_slice Tryz.underlying23 o1
  obtain ⟨v, x, e, g, b, wf⟩ := i1.ints Tryz.underlying23 Tryz.underlying21 (by kernel_rfl)
  obtain rfl := List.singleton_inj.1 e
  obtain ⟨bk, rfl⟩ := okWide_bool Tryz.underlying4 o2
  exact Ho (PV hL) g
theorem yx : Rows.IsearchNoneSaid :=
  OpenClaim.holds_of_wide 6 Tryz.f6 rfl rfl rfl rfl rfl rfl rfl ⟨rfl, rfl, rfl, rfl, rfl⟩ rfl rfl rfl rfl rfl (by kernel_rfl) Tryz.func6 (by kernel_rfl)
    (of_decide_eq_true (by kernel_rfl)) (by unfold Func.isWrapper; first | (rw [if_pos (by decide +kernel)]; kernel_rfl) | (rw [if_neg (by decide +kernel)]; exact ⟨rfl, rfl⟩))
    (fun os started H enc _ => yw os started H enc)
theorem isearchNone_card : Rows.IsearchNoneCardSaid :=
  Claim7.holds_tied_plain_at .later [] [.data, .pinned] true (true, "cdeeef36a54030791fe74ba94e7a0c048174d326e7653f97b5eda55c2ff4757f") false
    yx (fun _ h => by cases h) (by kernel_rfl) (fun _ h => by cases h) isearchNone_row_tie rfl ⟨rfl, rfl⟩ (by kernel_rfl) rfl
    (fun f fn hf hfn => by
      obtain rfl : f = 6 := Option.some.inj ((show Tryz.prog.funcNamed "lanyard/lanyardlaw20.IsearchNone" = some 6 by kernel_rfl).symm.trans hf) |>.symm
      obtain rfl : fn = Tryz.f6 := (Option.some.inj (Tryz.func6.symm.trans hfn)).symm
      exact ⟨by kernel_rfl, fun j t ht => by
        rw [Tryz.params6] at ht
        have hm : t ∈ [23, 4] := by simpa using Array.mem_of_getElem? ht
        have hall : ([23, 4].all fun u => !Tryz.prog.wantsStandIn u) = true := by kernel_rfl
        exact (show Tryz.prog.wantsStandIn t = false by simpa using List.all_eq_true.1 hall t hm)⟩)
    (by kernel_rfl)
end Go.Proofs.YtddekefihgejoaaGreatDoor
end
