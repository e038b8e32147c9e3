import Derived.Test.YtgmpclifphbjkaaGreatDoorZ2
import Derived.Test.YtgmpclifphbjkaaGreatDoorZ4
import Derived.Test.YtgmpclifphbjkaaGreatDoorZ18
import Derived.Laws.IdiomStrings
import Derived.Test.YtgmpclifphbjkaaGreatDoorZ15
import Derived.Test.YtgmpclifphbjkaaGreatDoorZ13
import Derived.Test.YtgmpclifphbjkaaGreatDoorZ17
set_option linter.unusedSimpArgs false
set_option linter.unusedVariables false
/- Texts of mine, joined, their names in short: Utf2 Utf3 Utf4 Utf5 StrB EdG EdGo EEditG. -/
section
namespace Go.Proofs.YtgmpclifphbjkaaGreatDoor
open Go.RowKit
open _root_.Go.Proofs.Tryz
theorem QB {r : Int} (h : iw r = false) : Lib.encodeRuneZ r = [239, 191, 189] := Lib.encodeRuneZ_bad (by
  unfold iw at h
  simp only [decide_eq_false_iff_not] at h
  omega)
section
variable {w0 w : World} {F : HP} {v : Value} {b l : List Int} {r x y : Int}
theorem N8 (H : aB w0 w F) (hT : AL w0) (hv : iU w0 F .u8 v b) (hb : FY b) (hne : b ≠ []) : fQ prog 138 #[v] w fun v' w' => v' = .tuple #[.int .i32 (nJ b).1, .int .i64 ((nJ b).2 : Nat)] ∧ aB w0 w' F := by
 have hl := List.length_pos_iff.2 hne
 have y0 := BO hb 0
 refine gX func138 ntmps138 ?_
 dsimp only [bg, Nat.reduceAdd]
 refine ay (ah (aV rfl (aV rfl (aA (aj (ay (ay (ah (aO rfl (aU (oz (hv _ (H)) underlying135 rfl) (aO rfl (aA (aj (bf ?_))))))))))))))
 obtain ⟨av, cv, ev, -⟩ := jG.open (hv _ (H))
 subst ev
 refine fM [(0, _), (6, _), (7, _)] (fun (k : Nat) => [(8, .int .i64 (k : Int))]) (fun (k : Nat) W => k = 0 ∧ aB w0 W F) (fun (k : Nat) => 0) (0) (Sub.cons rfl (Sub.cons rfl (Sub.cons rfl (Sub.nil _)))) (Sub.cons rfl (Sub.nil _)) ⟨rfl, H⟩ ?_
 rintro k w2 ⟨rfl, HL⟩
 dsimp only [List.cons_append, List.nil_append]
 refine ay (ah (aU (dL rfl rfl) (aA (aj (ay (aH rfl (fun h1 => ?_) (fun h => by exfalso; (try simp only [aG] at h); first | contradiction | omega | (simp at h <;> omega))))))))
 (try simp only [aG] at h1)
 refine aS (aj (ay (bf (ay (ah ?_)))))
 obtain ⟨bv, ov, rfl⟩ := jG.pos (hv _ (HL)) (by omega)
 refine aU (eF underlying135 sizeOf5 rfl rfl (by omega)) ?_
 refine aU (iC (dM underlying5 rfl) rfl (by first | exact jG.Ee (hv _ (HL)) (by omega) | exact jG.U9 (hv _ (HL)) (by omega) | exact jG.UM (hv _ (HL)) (by omega))) ?_
 simp only [Int.natCast_zero]
 refine aV rfl (aA (aj (ay (ay (ah (aO rfl (aU (dL rfl rfl) (aA (aj (aH rfl (fun h2 => ?_) (fun h2 => ?_)))))))))))
 ·(try simp only [aG] at h2)
  refine ay (ah (aO rfl ?_))
  refine aU (iZ rfl (by rw [underlying5]; rfl) underlying21 (jP (by omega))) ?_
  refine aV rfl (aV rfl (aA (aj (aJ (aK (aW (aK (aK (aW (aK (fC (.inl rfl) results138 rfl rfl ?_)))))))))))
  exact ⟨by rw [Ej hne (by omega)]; rfl, HL⟩
 ·(try simp only [aG] at h2)
  refine aS (aj (fG ?_))
  refine zi (by decide) ?_
  refine aX (aX (bM (aj (ay (ah (aO rfl (dw rfl func178 (Ry HL hT (fun W HW => hv _ (HW)) (by assumption) (by assumption)) ?_)))))))
  rintro _ w3 ⟨rfl, H3⟩
  refine aO rfl (nX rfl rfl (nX rfl rfl (aV rfl (aV rfl (aA (aj (aJ (fC (.inl rfl) results138 rfl rfl ?_))))))))
  exact ⟨rfl, H3⟩
theorem LD (H : aB w0 w (iG 5 .u8 v l • F)) (hl : l.length ≤ 70368744177664) (hr : ¬ (0 ≤ r ∧ r ≤ 127)) (hw : -2147483648 ≤ r ∧ r < 2147483648) :
  fQ prog 198 #[v, .int .i32 r] w fun v' w' => aB w0 w' (iG 5 .u8 v' (l ++ Lib.encodeRuneZ r) • F) := by
 refine gX func198 ntmps198 ?_
 dsimp only [bg, Nat.reduceAdd]
 refine ay (ah (aV rfl (aA (aj (ay (ah (aO rfl ?_)))))))
 refine aU (Ei rfl (by rw [underlying21]; rfl) underlying234) ?_
 refine aV rfl (aA (aj (bf (ay (ah (aO rfl (aU (xR rfl rfl) (aV rfl (aA (aj (aH rfl (fun h1 => ?_) (fun h1 => ?_))))))))))))
 ·(try simp only [aG] at h1)
  refine ay (ah (aO rfl (aO rfl (aU (tq 6 64 (by decide) (by decide) rfl rfl) ?_))))
  refine aU (fP rfl (by rw [underlying21]; rfl) underlying5) ?_
  refine aU (jv 6 64 (by decide) rfl rfl (by omega)) (aO rfl ?_)
  refine aU (fP rfl (by rw [underlying21]; rfl) underlying5) ?_
  refine aU (gy 6 63 64 (by decide) (by decide) (by decide) rfl rfl (by omega)) (aU (jv 7 128 (by decide) rfl rfl (by omega)) (iy (iD (k := .u8) (l := [_, _]) H underlying135 sizeOf5 zeroValue5 rfl rfl rfl (by decide)) ?_))
  rintro l1 w1 H1
  refine iy (dS H1.f2 ((H1).aT) underlying135 (show (prog.info? 5).map (fun i => (i.zero, i.size, i.bytes)) = some (some (.int .u8 0), 1, 1) by kernel_rfl) rfl rfl (by first | omega | (simp only [List.length_append, List.length_nil, List.length_cons]; omega) | (simp; omega)) (by first | omega | (simp only [List.length_append, List.length_nil, List.length_cons]; omega) | (simp; omega))) ?_
  rintro l2 w2 H2
  try simp only [List.nil_append] at H2
  refine aV rfl (aA (aj (aJ (aW (aP (.inl rfl) results198 rfl ?_)))))
  rw [Lib.encodeRuneZ_two (by omega) (by omega)]
  have HX := H2.f2.right
  rw [show r / 64 % 256 = r / 64 from by omega, show r % 256 % 64 = r % 64 from by omega] at HX
  exact HX
 ·(try simp only [aG] at h1)
  refine ay (ay (ah (aO rfl (aU (dL rfl rfl) (aV rfl (aA (aj (aH rfl (fun h2 => ?_) (fun h2 => ?_)))))))))
  ·(try simp only [aG] at h2)
   refine aS (aj (aH rfl (fun h3 => ?_) (fun h3 => ?_)))
   ·(try simp only [aG] at h3)
    refine ay (ah (aO rfl (aO rfl (aU (tq 12 4096 (by decide) (by decide) rfl rfl) ?_))))
    refine aU (fP rfl (by rw [underlying21]; rfl) underlying5) ?_
    refine aU (jv 5 32 (by decide) rfl rfl (by omega)) (aO rfl (aU (tq 6 64 (by decide) (by decide) rfl rfl) ?_))
    refine aU (fP rfl (by rw [underlying21]; rfl) underlying5) ?_
    refine aU (gy 6 63 64 (by decide) (by decide) (by decide) rfl rfl (by omega)) (aU (jv 7 128 (by decide) rfl rfl (by omega)) (aO rfl ?_))
    refine aU (fP rfl (by rw [underlying21]; rfl) underlying5) ?_
    refine aU (gy 6 63 64 (by decide) (by decide) (by decide) rfl rfl (by omega)) (aU (jv 7 128 (by decide) rfl rfl (by omega)) (iy (iD (k := .u8) (l := [_, _, _]) H underlying135 sizeOf5 zeroValue5 rfl rfl rfl (by decide)) ?_))
    rintro l3 w3 H3
    refine iy (dS H3.f2 ((H3).aT) underlying135 (show (prog.info? 5).map (fun i => (i.zero, i.size, i.bytes)) = some (some (.int .u8 0), 1, 1) by kernel_rfl) rfl rfl (by first | omega | (simp only [List.length_append, List.length_nil, List.length_cons]; omega) | (simp; omega)) (by first | omega | (simp only [List.length_append, List.length_nil, List.length_cons]; omega) | (simp; omega))) ?_
    rintro l4 w4 H4
    try simp only [List.nil_append] at H4
    refine aV rfl (aA (aj (aJ (aW (aP (.inl rfl) results198 rfl ?_)))))
    rw [Lib.encodeRuneZ_three (by omega)]
    have HX := H4.f2.right
    rw [show r / 4096 % 256 = r / 4096 from by omega, show r / 64 % 256 % 64 = r / 64 % 64 from by omega, show r % 256 % 64 = r % 64 from by omega] at HX
    exact HX
   ·(try simp only [aG] at h3)
    refine ay (ah (aO rfl (aU (dQ rfl rfl) (jo rfl (fun h4 => ?_) (fun h4 => ?_)))))
    ·(try simp only [aG] at h4)
     refine bD (aO rfl (bD (aU (xR rfl rfl) (jO rfl rfl (aV rfl (aA (aj (aH rfl (fun h5 => ?_) (fun h5 => ?_)))))))))
     ·(try simp only [aG] at h5)
      refine ay (ah (aO rfl (aO rfl (aU (tq 18 262144 (by decide) (by decide) rfl rfl) ?_))))
      refine aU (fP rfl (by rw [underlying21]; rfl) underlying5) ?_
      refine aU (jv 4 16 (by decide) rfl rfl (by omega)) (aO rfl (aU (tq 12 4096 (by decide) (by decide) rfl rfl) ?_))
      refine aU (fP rfl (by rw [underlying21]; rfl) underlying5) ?_
      refine aU (gy 6 63 64 (by decide) (by decide) (by decide) rfl rfl (by omega)) (aU (jv 7 128 (by decide) rfl rfl (by omega)) (aO rfl (aU (tq 6 64 (by decide) (by decide) rfl rfl) ?_)))
      refine aU (fP rfl (by rw [underlying21]; rfl) underlying5) ?_
      refine aU (gy 6 63 64 (by decide) (by decide) (by decide) rfl rfl (by omega)) (aU (jv 7 128 (by decide) rfl rfl (by omega)) (aO rfl ?_))
      refine aU (fP rfl (by rw [underlying21]; rfl) underlying5) ?_
      refine aU (gy 6 63 64 (by decide) (by decide) (by decide) rfl rfl (by omega)) (aU (jv 7 128 (by decide) rfl rfl (by omega)) (iy (iD (k := .u8) (l := [_, _, _, _]) H underlying135 sizeOf5 zeroValue5 rfl rfl rfl (by decide)) ?_))
      rintro l5 w5 H5
      refine iy (dS H5.f2 ((H5).aT) underlying135 (show (prog.info? 5).map (fun i => (i.zero, i.size, i.bytes)) = some (some (.int .u8 0), 1, 1) by kernel_rfl) rfl rfl (by first | omega | (simp only [List.length_append, List.length_nil, List.length_cons]; omega) | (simp; omega)) (by first | omega | (simp only [List.length_append, List.length_nil, List.length_cons]; omega) | (simp; omega))) ?_
      rintro l6 w6 H6
      try simp only [List.nil_append] at H6
      refine aV rfl (aA (aj (aJ (aW (aP (.inl rfl) results198 rfl ?_)))))
      rw [Lib.encodeRuneZ_four (by omega) (by omega)]
      have HX := H6.f2.right
      rw [show r / 262144 % 256 = r / 262144 from by omega, show r / 4096 % 256 % 64 = r / 4096 % 64 from by omega, show r / 64 % 256 % 64 = r / 64 % 64 from by omega, show r % 256 % 64 = r % 64 from by omega] at HX
      exact HX
     ·(try simp only [aG] at h5)
      refine ay (ah (aO rfl (iy (iD (k := .u8) (l := [239, 191, 189]) H underlying135 sizeOf5 zeroValue5 rfl rfl rfl (by decide)) ?_)))
      rintro l7 w7 H7
      refine iy (dS H7.f2 ((H7).aT) underlying135 (show (prog.info? 5).map (fun i => (i.zero, i.size, i.bytes)) = some (some (.int .u8 0), 1, 1) by kernel_rfl) rfl rfl (by first | omega | (simp only [List.length_append, List.length_nil, List.length_cons]; omega) | (simp; omega)) (by first | omega | (simp only [List.length_append, List.length_nil, List.length_cons]; omega) | (simp; omega))) ?_
      rintro l8 w8 H8
      try simp only [List.nil_append] at H8
      refine aV rfl (aA (aj (aJ (aW (aP (.inl rfl) results198 rfl ?_)))))
      rw [Lib.encodeRuneZ_bad (by omega)]
      exact H8.f2.right
    ·(try simp only [aG] at h4)
     refine bI (bI (jr rfl rfl (aV rfl (aA (aj (qN (ay (ah (aO rfl (iy (iD (k := .u8) (l := [239, 191, 189]) H underlying135 sizeOf5 zeroValue5 rfl rfl rfl (by decide)) ?_))))))))))
     rintro l9 w9 H9
     refine iy (dS H9.f2 ((H9).aT) underlying135 (show (prog.info? 5).map (fun i => (i.zero, i.size, i.bytes)) = some (some (.int .u8 0), 1, 1) by kernel_rfl) rfl rfl (by first | omega | (simp only [List.length_append, List.length_nil, List.length_cons]; omega) | (simp; omega)) (by first | omega | (simp only [List.length_append, List.length_nil, List.length_cons]; omega) | (simp; omega))) ?_
     rintro l10 w10 oP
     try simp only [List.nil_append] at oP
     refine aV rfl (aA (aj (aJ (aW (aP (.inl rfl) results198 rfl ?_)))))
     rw [Lib.encodeRuneZ_bad (by omega)]
     exact oP.f2.right
  ·(try simp only [aG] at h2)
   refine ah (aO rfl (aU (dL rfl rfl) (jo rfl (fun h6 => ?_) (fun h6 => ?_))))
   ·(try simp only [aG] at h6)
    refine bD (aO rfl (bD (aU (xR rfl rfl) (jO rfl rfl (aV rfl (aA (aj (aH rfl (fun h7 => ?_) (fun h7 => ?_)))))))))
    ·(try simp only [aG] at h7)
     refine ay (ah (aO rfl (aO rfl (aU (tq 12 4096 (by decide) (by decide) rfl rfl) ?_))))
     refine aU (fP rfl (by rw [underlying21]; rfl) underlying5) ?_
     refine aU (jv 5 32 (by decide) rfl rfl (by omega)) (aO rfl (aU (tq 6 64 (by decide) (by decide) rfl rfl) ?_))
     refine aU (fP rfl (by rw [underlying21]; rfl) underlying5) ?_
     refine aU (gy 6 63 64 (by decide) (by decide) (by decide) rfl rfl (by omega)) (aU (jv 7 128 (by decide) rfl rfl (by omega)) (aO rfl ?_))
     refine aU (fP rfl (by rw [underlying21]; rfl) underlying5) ?_
     refine aU (gy 6 63 64 (by decide) (by decide) (by decide) rfl rfl (by omega)) (aU (jv 7 128 (by decide) rfl rfl (by omega)) (iy (iD (k := .u8) (l := [_, _, _]) H underlying135 sizeOf5 zeroValue5 rfl rfl rfl (by decide)) ?_))
     rintro l11 FT uV
     refine iy (dS uV.f2 ((uV).aT) underlying135 (show (prog.info? 5).map (fun i => (i.zero, i.size, i.bytes)) = some (some (.int .u8 0), 1, 1) by kernel_rfl) rfl rfl (by first | omega | (simp only [List.length_append, List.length_nil, List.length_cons]; omega) | (simp; omega)) (by first | omega | (simp only [List.length_append, List.length_nil, List.length_cons]; omega) | (simp; omega))) ?_
     rintro l12 w12 rV
     try simp only [List.nil_append] at rV
     refine aV rfl (aA (aj (aJ (aW (aP (.inl rfl) results198 rfl ?_)))))
     rw [Lib.encodeRuneZ_three (by omega)]
     have HX := rV.f2.right
     rw [show r / 4096 % 256 = r / 4096 from by omega, show r / 64 % 256 % 64 = r / 64 % 64 from by omega, show r % 256 % 64 = r % 64 from by omega] at HX
     exact HX
    ·(try simp only [aG] at h7)
     refine ay (ah (aO rfl (aU (dQ rfl rfl) (jo rfl (fun h8 => ?_) (fun h8 => ?_)))))
     ·(try simp only [aG] at h8)
      refine bD (aO rfl (bD (aU (xR rfl rfl) (jO rfl rfl (aV rfl (aA (aj (aH rfl (fun h9 => ?_) (fun h9 => ?_)))))))))
      ·(try simp only [aG] at h9)
       refine ay (ah (aO rfl (aO rfl (aU (tq 18 262144 (by decide) (by decide) rfl rfl) ?_))))
       refine aU (fP rfl (by rw [underlying21]; rfl) underlying5) ?_
       refine aU (jv 4 16 (by decide) rfl rfl (by omega)) (aO rfl (aU (tq 12 4096 (by decide) (by decide) rfl rfl) ?_))
       refine aU (fP rfl (by rw [underlying21]; rfl) underlying5) ?_
       refine aU (gy 6 63 64 (by decide) (by decide) (by decide) rfl rfl (by omega)) (aU (jv 7 128 (by decide) rfl rfl (by omega)) (aO rfl (aU (tq 6 64 (by decide) (by decide) rfl rfl) ?_)))
       refine aU (fP rfl (by rw [underlying21]; rfl) underlying5) ?_
       refine aU (gy 6 63 64 (by decide) (by decide) (by decide) rfl rfl (by omega)) (aU (jv 7 128 (by decide) rfl rfl (by omega)) (aO rfl ?_))
       refine aU (fP rfl (by rw [underlying21]; rfl) underlying5) ?_
       refine aU (gy 6 63 64 (by decide) (by decide) (by decide) rfl rfl (by omega)) (aU (jv 7 128 (by decide) rfl rfl (by omega)) (iy (iD (k := .u8) (l := [_, _, _, _]) H underlying135 sizeOf5 zeroValue5 rfl rfl rfl (by decide)) ?_))
       rintro l13 MB vZ
       refine iy (dS vZ.f2 ((vZ).aT) underlying135 (show (prog.info? 5).map (fun i => (i.zero, i.size, i.bytes)) = some (some (.int .u8 0), 1, 1) by kernel_rfl) rfl rfl (by first | omega | (simp only [List.length_append, List.length_nil, List.length_cons]; omega) | (simp; omega)) (by first | omega | (simp only [List.length_append, List.length_nil, List.length_cons]; omega) | (simp; omega))) ?_
       rintro l14 JE uX
       try simp only [List.nil_append] at uX
       refine aV rfl (aA (aj (aJ (aW (aP (.inl rfl) results198 rfl ?_)))))
       rw [Lib.encodeRuneZ_four (by omega) (by omega)]
       have HX := uX.f2.right
       rw [show r / 262144 % 256 = r / 262144 from by omega, show r / 4096 % 256 % 64 = r / 4096 % 64 from by omega, show r / 64 % 256 % 64 = r / 64 % 64 from by omega, show r % 256 % 64 = r % 64 from by omega] at HX
       exact HX
      ·(try simp only [aG] at h9)
       refine ay (ah (aO rfl (iy (iD (k := .u8) (l := [239, 191, 189]) H underlying135 sizeOf5 zeroValue5 rfl rfl rfl (by decide)) ?_)))
       rintro l15 P8 yQ
       refine iy (dS yQ.f2 ((yQ).aT) underlying135 (show (prog.info? 5).map (fun i => (i.zero, i.size, i.bytes)) = some (some (.int .u8 0), 1, 1) by kernel_rfl) rfl rfl (by first | omega | (simp only [List.length_append, List.length_nil, List.length_cons]; omega) | (simp; omega)) (by first | omega | (simp only [List.length_append, List.length_nil, List.length_cons]; omega) | (simp; omega))) ?_
       rintro l16 w16 qH
       try simp only [List.nil_append] at qH
       refine aV rfl (aA (aj (aJ (aW (aP (.inl rfl) results198 rfl ?_)))))
       rw [Lib.encodeRuneZ_bad (by omega)]
       exact qH.f2.right
     ·(try simp only [aG] at h8)
      refine bI (bI (jr rfl rfl (aV rfl (aA (aj (qN (ay (ah (aO rfl (iy (iD (k := .u8) (l := [239, 191, 189]) H underlying135 sizeOf5 zeroValue5 rfl rfl rfl (by decide)) ?_))))))))))
      rintro l17 UN Aj
      refine iy (dS Aj.f2 ((Aj).aT) underlying135 (show (prog.info? 5).map (fun i => (i.zero, i.size, i.bytes)) = some (some (.int .u8 0), 1, 1) by kernel_rfl) rfl rfl (by first | omega | (simp only [List.length_append, List.length_nil, List.length_cons]; omega) | (simp; omega)) (by first | omega | (simp only [List.length_append, List.length_nil, List.length_cons]; omega) | (simp; omega))) ?_
      rintro l18 UO BF
      try simp only [List.nil_append] at BF
      refine aV rfl (aA (aj (aJ (aW (aP (.inl rfl) results198 rfl ?_)))))
      rw [Lib.encodeRuneZ_bad (by omega)]
      exact BF.f2.right
   ·(try simp only [aG] at h6)
    refine bI (bI (jr rfl rfl (aV rfl (aA (aj (qN (ay (ah (aO rfl (aU (dQ rfl rfl) (jo rfl (fun h10 => ?_) (fun h10 => ?_))))))))))))
    ·(try simp only [aG] at h10)
     refine bD (aO rfl (bD (aU (xR rfl rfl) (jO rfl rfl (aV rfl (aA (aj (aH rfl (fun h11 => ?_) (fun h11 => ?_)))))))))
     ·(try simp only [aG] at h11)
      refine ay (ah (aO rfl (aO rfl (aU (tq 18 262144 (by decide) (by decide) rfl rfl) ?_))))
      refine aU (fP rfl (by rw [underlying21]; rfl) underlying5) ?_
      refine aU (jv 4 16 (by decide) rfl rfl (by omega)) (aO rfl (aU (tq 12 4096 (by decide) (by decide) rfl rfl) ?_))
      refine aU (fP rfl (by rw [underlying21]; rfl) underlying5) ?_
      refine aU (gy 6 63 64 (by decide) (by decide) (by decide) rfl rfl (by omega)) (aU (jv 7 128 (by decide) rfl rfl (by omega)) (aO rfl (aU (tq 6 64 (by decide) (by decide) rfl rfl) ?_)))
      refine aU (fP rfl (by rw [underlying21]; rfl) underlying5) ?_
      refine aU (gy 6 63 64 (by decide) (by decide) (by decide) rfl rfl (by omega)) (aU (jv 7 128 (by decide) rfl rfl (by omega)) (aO rfl ?_))
      refine aU (fP rfl (by rw [underlying21]; rfl) underlying5) ?_
      refine aU (gy 6 63 64 (by decide) (by decide) (by decide) rfl rfl (by omega)) (aU (jv 7 128 (by decide) rfl rfl (by omega)) (iy (iD (k := .u8) (l := [_, _, _, _]) H underlying135 sizeOf5 zeroValue5 rfl rfl rfl (by decide)) ?_))
      rintro l19 UQ xk
      refine iy (dS xk.f2 ((xk).aT) underlying135 (show (prog.info? 5).map (fun i => (i.zero, i.size, i.bytes)) = some (some (.int .u8 0), 1, 1) by kernel_rfl) rfl rfl (by first | omega | (simp only [List.length_append, List.length_nil, List.length_cons]; omega) | (simp; omega)) (by first | omega | (simp only [List.length_append, List.length_nil, List.length_cons]; omega) | (simp; omega))) ?_
      rintro l20 Vh yR
      try simp only [List.nil_append] at yR
      refine aV rfl (aA (aj (aJ (aW (aP (.inl rfl) results198 rfl ?_)))))
      rw [Lib.encodeRuneZ_four (by omega) (by omega)]
      have HX := yR.f2.right
      rw [show r / 262144 % 256 = r / 262144 from by omega, show r / 4096 % 256 % 64 = r / 4096 % 64 from by omega, show r / 64 % 256 % 64 = r / 64 % 64 from by omega, show r % 256 % 64 = r % 64 from by omega] at HX
      exact HX
     ·(try simp only [aG] at h11)
      refine ay (ah (aO rfl (iy (iD (k := .u8) (l := [239, 191, 189]) H underlying135 sizeOf5 zeroValue5 rfl rfl rfl (by decide)) ?_)))
      rintro l21 Vj oQ
      refine iy (dS oQ.f2 ((oQ).aT) underlying135 (show (prog.info? 5).map (fun i => (i.zero, i.size, i.bytes)) = some (some (.int .u8 0), 1, 1) by kernel_rfl) rfl rfl (by first | omega | (simp only [List.length_append, List.length_nil, List.length_cons]; omega) | (simp; omega)) (by first | omega | (simp only [List.length_append, List.length_nil, List.length_cons]; omega) | (simp; omega))) ?_
      rintro l22 Yr DR
      try simp only [List.nil_append] at DR
      refine aV rfl (aA (aj (aJ (aW (aP (.inl rfl) results198 rfl ?_)))))
      rw [Lib.encodeRuneZ_bad (by omega)]
      exact DR.f2.right
    ·(try simp only [aG] at h10)
     refine bI (bI (jr rfl rfl (aV rfl (aA (aj (qN (ay (ah (aO rfl (iy (iD (k := .u8) (l := [239, 191, 189]) H underlying135 sizeOf5 zeroValue5 rfl rfl rfl (by decide)) ?_))))))))))
     rintro l23 RJ tY
     refine iy (dS tY.f2 ((tY).aT) underlying135 (show (prog.info? 5).map (fun i => (i.zero, i.size, i.bytes)) = some (some (.int .u8 0), 1, 1) by kernel_rfl) rfl rfl (by first | omega | (simp only [List.length_append, List.length_nil, List.length_cons]; omega) | (simp; omega)) (by first | omega | (simp only [List.length_append, List.length_nil, List.length_cons]; omega) | (simp; omega))) ?_
     rintro l24 YS GZ
     try simp only [List.nil_append] at GZ
     refine aV rfl (aA (aj (aJ (aW (aP (.inl rfl) results198 rfl ?_)))))
     rw [Lib.encodeRuneZ_bad (by omega)]
     exact GZ.f2.right
end
end Go.Proofs.YtgmpclifphbjkaaGreatDoor
end
section
namespace Go.Proofs.YtgmpclifphbjkaaGreatDoor
open Go.RowKit
open _root_.Go.Proofs.Tryz
section
variable {w0 w : World} {F : HP} {v : Value} {b l : List Int} {r x y : Int}
theorem Bq (H : aB w0 w (iG 5 .u8 v l • F)) (hl : l.length ≤ 70368744177664) (hw : -2147483648 ≤ r ∧ r < 2147483648) :
  fQ prog 180 #[v, .int .i32 r] w fun v' w' => aB w0 w' (iG 5 .u8 v' (l ++ Lib.encodeRuneZ r) • F) := by
 refine gX func180 ntmps180 ?_
 dsimp only [bg, Nat.reduceAdd]
 refine ay (ah (aV rfl (aA (aj (ay (ay (ah (aO rfl ?_))))))))
 refine aU (Ei rfl (by rw [underlying21]; rfl) underlying234) ?_
 refine aU (xR rfl rfl) (aA (aj (aH rfl (fun h1 => ?_) (fun h1 => ?_))))
 ·(try simp only [aG] at h1)
  refine ay (ah (aO rfl (aO rfl ?_)))
  refine aU (fP rfl (by rw [underlying21]; rfl) underlying5) ?_
  refine iy (iD (k := .u8) (l := [_]) H underlying135 sizeOf5 zeroValue5 rfl rfl rfl (by decide)) ?_
  rintro l1 w1 H1
  refine iy (dS H1.f2 ((H1).aT) underlying135 (show (prog.info? 5).map (fun i => (i.zero, i.size, i.bytes)) = some (some (.int .u8 0), 1, 1) by kernel_rfl) rfl rfl (by first | omega | (simp only [List.length_append, List.length_nil, List.length_cons]; omega) | (simp; omega)) (by first | omega | (simp only [List.length_append, List.length_nil, List.length_cons]; omega) | (simp; omega))) ?_
  rintro l2 w2 H2
  try simp only [List.nil_append] at H2
  refine aV rfl (aA (aj (aJ (aK (aP (.inl rfl) results180 rfl ?_)))))
  rw [Lib.encodeRuneZ_one (by omega) (by omega)]
  have HX := H2.f2.right
  rw [show r % 256 = r from by omega] at HX
  exact HX
 ·(try simp only [aG] at h1)
  refine aS (aj (ay (ah (aO rfl (aO rfl (dw rfl func198 (LD H (by omega) (by omega) hw) ?_))))))
  rintro u3 w3 H3
  refine aV rfl (aA (aj (aJ (aP (.inl rfl) results180 rfl ?_))))
  exact H3
end
end Go.Proofs.YtgmpclifphbjkaaGreatDoor
end
section
namespace Go.Proofs.YtgmpclifphbjkaaGreatDoor
open Go.RowKit
section
variable {w0 w : World} {F : HP} {v : Value} {b l : List Int} {r x y : Int}
end
end Go.Proofs.YtgmpclifphbjkaaGreatDoor
end
section
namespace Go.Proofs.YtgmpclifphbjkaaGreatDoor
open Go.RowKit
open _root_.Go.Proofs.Tryz
theorem Ii {b : List Int} (h : FY b) (n : Nat) : FY (b.drop n) := fun x hx => h x (List.mem_of_mem_drop hx)
theorem Ue {b : List Int} (h : sZ b = false) : nJ b = (65533, 1) := by unfold nJ; rw [if_neg (by simp [h])]
theorem Dj (l : List Int) (k : Nat) (h : k < l.length) : oC (l.take (k + 1)) = oC (l.take k) ++ Lib.encodeRuneZ (l.getD k 0) := by
  unfold oC
  rw [List.take_succ_eq_append_getElem h, List.flatMap_append, List.getD_eq_getElem?_getD, List.getElem?_eq_getElem h]
  simp
theorem Ij (l : List Int) : (oC l).length ≤ 4 * l.length := by
  induction l with
  | nil => simp [oC]
  | cons x r ih =>
    have h1 : oC (x :: r) = Lib.encodeRuneZ x ++ oC r := by simp [oC]
    have := (Lib.encodeRuneZ_length x).2
    rw [h1, List.length_append, List.length_cons]
    omega
theorem VG {l : List Int} (k : Nat) : (oC (l.take k)).length ≤ 4 * l.length := by
  have := Ij (l.take k)
  rw [List.length_take] at this
  omega
def dF (l : List Int) : Prop := ∀ x ∈ l, -2147483648 ≤ x ∧ x < 2147483648
theorem X5 {l : List Int} (h : dF l) {k : Nat} (hk : k < l.length) : -2147483648 ≤ l.getD k 0 ∧ l.getD k 0 < 2147483648 := by
  rw [List.getD_eq_getElem?_getD, List.getElem?_eq_getElem hk]; exact h _ (List.getElem_mem hk)
section
variable {w0 w : World} {F : HP} {v : Value} {b l : List Int} {r x y : Int}
theorem Ci (H : aB w0 w F) (hT : AL w0) (hv : iU w0 F .u8 v b) (hb : FY b) (hL : b.length ≤ 17179869184) : fQ prog 76 #[v] w fun v' w' => aB w0 w' (iG 21 .i32 v' (uJ b) • F) := by
 refine gX func76 ntmps76 ?_
 dsimp only [bg, Nat.reduceAdd]
 refine ay (ah (aV rfl (aA (aj (ay (ah (aV rfl (aA (aj (ay (bf ?_)))))))))))
 refine fM [] (fun (⟨v2, u, n⟩ : Value × Value × Nat) => [(0, v2), (3, u)]) (fun (⟨v2, u, n⟩ : Value × Value × Nat) W => ∃ b2 l2, (iU w0 F .u8 v2 b2 ∧ FY b2 ∧ l2 ++ uJ b2 = uJ b ∧ l2.length + b2.length ≤ b.length ∧ b2.length = n) ∧ aB w0 W (iG 21 .i32 u l2 • F)) (fun (⟨v2, u, n⟩ : Value × Value × Nat) => n) ((v, .slice none 0 0, b.length)) (Sub.nil _) (Sub.cons rfl (Sub.cons rfl (Sub.nil _))) ⟨b, [], ⟨hv, hb, rfl, by simp, rfl⟩, (H).fZ none⟩ ?_
 rintro ⟨v2, u, n⟩ w1 ⟨b2, l2, ⟨hv2, hb2, hr2, hl2, hn2⟩, HL⟩
 dsimp only [List.cons_append, List.nil_append]
 refine ay (ay (ah (aO rfl (aU (oz (hv2 _ (HL.right)) underlying135 rfl) (aU (dQ rfl rfl) (aA (aj (aH rfl (fun h1 => ?_) (fun h1 => ?_)))))))))
 ·(try simp only [aG] at h1)
  refine aS (aj (bf (ay ?_)))
  have hne : b2 ≠ [] := by rintro rfl; simp at *
  have hd := AB hne
  refine ah (aO rfl (dw rfl func138 (N8 HL hT (fun W HW => hv2 _ (HW.right)) (by assumption) (by assumption)) ?_))
  rintro _ w2 ⟨rfl, H2⟩
  refine aO rfl (nX rfl rfl (nX rfl rfl (aV rfl (aV rfl (aA (aj (ay (ah (aO rfl (aO rfl (iy (iD (k := .i32) (l := [_]) H2 underlying22 sizeOf21 zeroValue21 rfl rfl rfl (by decide)) ?_)))))))))))
  rintro l3 w3 H3
  refine iy (dS H3.f2 ((H3).aT) underlying22 (show (prog.info? 21).map (fun i => (i.zero, i.size, i.bytes)) = some (some (.int .i32 0), 1, 4) by kernel_rfl) rfl rfl (by first | omega | (simp only [List.length_append, List.length_nil, List.length_cons]; omega) | (simp; omega)) (by first | omega | (simp only [List.length_append, List.length_nil, List.length_cons]; omega) | (simp; omega))) ?_
  rintro l4 w4 H4
  try simp only [List.nil_append] at H4
  refine aV rfl (aA (aj (ah (aO rfl (aO rfl (aU (vk (hv2 _ (H4.right.right)) underlying135 sizeOf5 rfl rfl rfl (by omega)) (aV rfl (aA (aQ ?_)))))))))
  refine dK (_, _, _) (Sub.cons rfl (Sub.cons rfl (Sub.nil _))) (Sub.nil _) (by (try dsimp only); exact ⟨_, _, ⟨fun W HW => jG.from (hv2 W HW) hd.2.1, Ii hb2 _, by rw [← hr2, CO hne, List.append_assoc]; rfl, by rw [List.length_append, List.length_drop]; simp only [List.length_cons, List.length_nil]; omega, rfl⟩, H4.f2.right⟩) ?_
  ·(try dsimp only); rw [List.length_drop]; omega
 ·(try simp only [aG] at h1)
  refine fG (aX (aX (bM (aj (ay (ah (aO rfl (aV rfl (aA (aj (aJ (aP (.inl rfl) results76 rfl ?_))))))))))))
  obtain rfl : b2 = [] := List.eq_nil_of_length_eq_zero (by omega)
  rw [Eh, List.append_nil] at hr2
  subst hr2
  exact HL
theorem QC (H : aB w0 w F) (hv : iU w0 F .i32 v l) (hl : dF l) (hL : l.length ≤ 17179869184) : fQ prog 139 #[v] w fun v' w' => aB w0 w' (iG 5 .u8 v' (oC l) • F) := by
 refine gX func139 ntmps139 ?_
 dsimp only [bg, Nat.reduceAdd]
 refine ay (ah (aV rfl (aA (aj (ay (ah (aV rfl (aA (aj (ay (ay (ah (aO rfl (aU (oz (hv _ (H)) underlying22 rfl) (aO rfl (aA (aj (bf ?_))))))))))))))))))
 refine fM [(6, _), (7, _)] (fun (⟨k, u⟩ : Nat × Value) => [(8, .int .i64 (k : Int)), (3, u)]) (fun (⟨k, u⟩ : Nat × Value) W => k ≤ l.length ∧ aB w0 W (iG 5 .u8 u (oC (l.take k)) • F)) (fun (⟨k, u⟩ : Nat × Value) => l.length - k) ((0, .slice none 0 0)) (Sub.cons rfl (Sub.cons rfl (Sub.nil _))) (Sub.cons rfl (Sub.cons rfl (Sub.nil _))) ⟨by omega, (H).fZ none⟩ ?_
 rintro ⟨k, u⟩ w1 ⟨hk, HL⟩
 dsimp only [List.cons_append, List.nil_append]
 refine ay (ah (aU (dL rfl rfl) (aA (aj (ay (aH rfl (fun h1 => ?_) (fun h1 => ?_)))))))
 ·(try simp only [aG] at h1)
  refine aS (aj (ay (bf (ay ?_))))
  have hkl : k < l.length := by omega
  have hbb := VG (l := l) k
  have hrr := X5 hl hkl
  refine ah ?_
  obtain ⟨bv, ov, cv, ev⟩ := jG.rG (hv _ (HL.right)) (by omega)
  cases ev
  refine aU (eF underlying22 sizeOf21 rfl rfl (by omega)) ?_
  refine aU (iC (dM underlying21 rfl) rfl (by first | exact jG.Ee (hv _ (HL.right)) (by omega) | exact jG.U9 (hv _ (HL.right)) (by omega) | exact jG.UM (hv _ (HL.right)) (by omega))) ?_
  refine aV rfl (aA (aj (ay (ay (ah (aO rfl (dw rfl func179 (Xf) ?_)))))))
  rintro _ _ ⟨rfl, rfl⟩
  refine aU (kM rfl) (aA (aj (aH rfl (fun h2 => ?_) (fun h2 => ?_))))
  ·(try simp only [aG] at h2)
   have henc : Lib.encodeRuneZ (l.getD k 0) = Lib.encodeRuneZ 65533 := by rw [QB (by simpa using h2)]; rfl
   refine ah (aV rfl (aA (aj (ah (aO rfl (aO rfl (dw rfl func180 (Bq HL (by omega) (by omega)) ?_)))))))
   rintro u3 w3 H3
   refine aV rfl (aA (aQ (aj (ah (aU (eP rfl rfl (by omega)) (aO rfl (aA ?_)))))))
   refine dK ((k + 1, u3)) ?_ ?_ ?_ ?_
   ·exact (Sub.cons rfl (Sub.cons rfl (Sub.nil _)))
   ·exact (Sub.cons rfl (Sub.cons rfl (Sub.nil _)))
   ·(try dsimp only)
    first | done | exact ⟨by omega, by rw [Dj l k hkl]; first | exact H3 | (rw [henc]; exact H3)⟩
   ·(try dsimp only); omega
  ·(try simp only [aG] at h2)
   refine aS (aj (ah (aO rfl (aO rfl (dw rfl func180 (Bq HL (by omega) (by omega)) ?_)))))
   rintro u4 w4 H4
   refine aV rfl (aA (aQ (aj (ah (aU (eP rfl rfl (by omega)) (aO rfl (aA ?_)))))))
   refine dK ((k + 1, u4)) ?_ ?_ ?_ ?_
   ·exact (Sub.cons rfl (Sub.cons rfl (Sub.nil _)))
   ·exact (Sub.cons rfl (Sub.cons rfl (Sub.nil _)))
   ·(try dsimp only)
    first | done | exact ⟨by omega, by rw [Dj l k hkl]; first | exact H4 | (rw [henc]; exact H4)⟩
   ·(try dsimp only); omega
 ·(try simp only [aG] at h1)
  refine fG (aX (aX (bM (aj (ay (ah (aO rfl (aV rfl (aA (aj (aJ (aP (.inl rfl) results139 rfl ?_))))))))))))
  obtain rfl : k = l.length := by omega
  rw [List.take_length] at HL
  exact HL
end
end Go.Proofs.YtgmpclifphbjkaaGreatDoor
end
section
namespace Go.Proofs.YtgmpclifphbjkaaGreatDoor
open Go.RowKit
def Ik (l : List Int) : ByteArray := l.foldl (fun s n => s.push (UInt8.ofNat n.toNat)) .empty
theorem N9 (l : List Int) : Ik l = ⟨(l.map fun n => UInt8.ofNat n.toNat).toArray⟩ := by
  have key : ∀ (l : List Int) (s : ByteArray), l.foldl (fun s n => s.push (UInt8.ofNat n.toNat)) s = ⟨s.data ++ (l.map fun n => UInt8.ofNat n.toNat).toArray⟩ := by
    intro l
    induction l with
    | nil => intro s; simp
    | cons x r ih =>
      intro s
      rw [List.foldl_cons, ih]
      simp [ByteArray.push]
  unfold Ik
  rw [key]
  simp
def wX (s : ByteArray) : List Int := s.data.toList.map fun b => (b.toNat : Int)
theorem qE (s : ByteArray) : (wX s).length = s.size := by unfold wX; simp
theorem y5 (s : ByteArray) : ∀ x ∈ wX s, 0 ≤ x ∧ x < 256 := by
  intro x hx
  obtain ⟨b, _, rfl⟩ := List.mem_map.1 hx
  have := b.toNat_lt
  omega
section
variable {P : Program} {L : List (Nat × Value)} {w0 w : World} {F : HP} {ty : TypeId} {x : Operand}
theorem LG {src dst e : TypeId} {v : Value} {l : List Int} (hs : P.underlying src = some (.slice e)) (hd : P.underlying dst = some .string) (he : P.underlying e = some (.int .u8)) (hx : ev L x = some v) (hr : jG w .u8 v l) :
    Val P L (.convert src dst x) ty w (.string (Ik l)) w := fun ρ hρ _ _ _ _ => by
  obtain ⟨a, c, rfl, _, _, hc⟩ := Rd.cells (P := P) hr
  have loop : ∀ (f : Value → ByteArray → Sem (ForInStep ByteArray)), (∀ n s, f (.int .u8 n) s = pure (ForInStep.yield (s.push (UInt8.ofNat n.toNat)))) → ∀ (l : List Int) (s : ByteArray), (forIn (m := Sem) (l.map (Value.int .u8)).toArray s f).run P w = .ok (l.foldl (fun s n => s.push (UInt8.ofNat n.toNat)) s) w := by
    intro f hf l
    induction l with
    | nil => intro s; rfl
    | cons x l ih => intro s; simp [hf] at ih ⊢; try exact ih _
  have h1 : (Conv.bytesToString (.slice a l.length c)).run P w = .ok (.string (Ik l)) w := by
    unfold Conv.bytesToString
    cases a with
    | none =>
      have : l = [] := by
        cases l with
        | nil => rfl
        | cons x l =>
          obtain ⟨_, _, e, _, _, hh⟩ := hr.open
          cases e
          obtain ⟨_, _, e, _⟩ := hh (by simp)
          cases e
      subst this; rfl
    | some a =>
      have h2 : (loadCells a l.length).run P w = .ok (l.map (Value.int .u8)).toArray w := by simpa [Builtin.firstCells] using hc
      simp only [Sem.run_bind, h2, Result.andThen_ok]
      rw [loop]
      · rfl
      · intro n s; rfl
  simp [execOp, hρ _ _ hx, convert, run_underlying hs, run_underlying hd, run_underlying he, h1]
theorem yE {src dst e : TypeId} {s : ByteArray} (H : aB w0 w F) (hs : P.underlying src = some .string) (hd : P.underlying dst = some (.slice e)) (he : P.underlying e = some (.int .u8)) (hx : ev L x = some (.string s)) (h63 : (s.size : Int) ≤ 4611686018427387904) :
    tZ P L (.convert src dst x) ty w fun v w' => aB w0 w' (Dt .u8 v (wX s) • F) := by
  have hge := grownCap_ge w s.size 0 e
  refine pV (v := .slice (some ⟨w.heap.size, 0, none⟩) s.size (grownCap w s.size 0 e)) (w' := w.drew.alloc (.cells (bytesRow s (grownCap w s.size 0 e)) e ((bytesRow s (grownCap w s.size 0 e)).size, (bytesRow s (grownCap w s.size 0 e)).size + 1))) ?_ ?_
  · intro ρ hρ d pos nG g
    simp only [execOp, hρ _ _ hx, Sem.run_bind, run_bytes_of_string w src dst e s hs hd he]
    rfl
  · refine (H.drew.alloc _).freeze.DF (pq (fun I hI => ?_) F)
    refine ⟨some ⟨w.heap.size, 0, none⟩, grownCap w s.size 0 e, by rw [qE], by rw [qE]; exact hge, xY w _ _ _ (by omega), fun _ => ⟨w.heap.size, 0, _, _, _, rfl, hI, fun j hj => ?_⟩⟩
    rw [qE] at hj
    unfold bytesRow wX
    rw [Nat.zero_add, Array.getElem?_append_left (by simpa using hj)]
    simp [List.getD_eq_getElem?_getD]
    have hj2 : j < s.data.size := hj
    exact ⟨s.data[j], Array.getElem?_eq_getElem hj2, by rw [Array.getElem?_eq_getElem hj2]; rfl⟩
end
end Go.Proofs.YtgmpclifphbjkaaGreatDoor
end
section
namespace Go.Proofs.YtgmpclifphbjkaaGreatDoor
open Go.RowKit
open _root_.Go.Proofs.Tryz
def Af (hl : List mM) (tx : Int → Option ByteArray) (place : Int) (L : List Int) : ByteArray := if uJ (wX (iH hl tx place)) = L then iH hl tx place else Ik (oC L)
theorem uz {hl : List mM} {tx : Int → Option ByteArray} (h1 : ∀ x ∈ hl, Vq x) (h2 : ∀ k t, tx k = some t → t.size ≤ 16384) (k : Int) : (iH hl tx k).size ≤ 16384 := by
  unfold iH
  cases h : tx k with
  | some t => exact h2 k t h
  | none =>
    show (yS hl k).size ≤ 16384
    unfold yS Nz
    split
    · rename_i hk
      rw [List.getD_eq_getElem?_getD, List.getElem?_eq_getElem (by omega)]
      exact (h1 _ (List.getElem_mem _)).1
    · simp
section
variable {w0 w : World} {F : HP} {e pb pw pt ph : Nat} {L : List Int} {X3 mk place base most : Int} {tx : Int → Option ByteArray} {hl : List mM}
theorem Dk {x1 x3 x4 x5 x6 x7 x8 x9 x10 x12 zX x14 x15 x16 x17 x18 x19 x20 x21 zy x23 x24 x25 zA x27 x28 x29 x30 x31 x32 BH : Value} (H : aB w0 w (dA e (.cells (.pointer (some ⟨pb, 0, none⟩) :: x1 :: .pointer (some ⟨pw, 0, none⟩) :: x3 :: x4 :: x5 :: x6 :: x7 :: x8 :: x9 :: x10 :: .pointer (some ⟨ph, 0, none⟩) :: x12 :: zX :: x14 :: x15 :: x16 :: x17 :: x18 :: x19 :: x20 :: x21 :: zy :: x23 :: x24 :: x25 :: zA :: x27 :: x28 :: x29 :: x30 :: x31 :: x32 :: BH :: []).toArray 66 (0, 0)) • dJ pb L X3 mk • dA pw (.cells #[.int .i64 place, .map (some pt)] 112 (0, 0)) • fF mQ pt (mV tx) • dZ ph hl base most • F))
  (hT : AL w0) (hR : dF L) (hsz : (iH hl tx place).size ≤ 16384) :
  fQ prog 77 #[.pointer (some ⟨e, 0, none⟩)] w fun v' w' => v' = .string (Af hl tx place L) ∧ aB w0 w' (dA e (.cells (.pointer (some ⟨pb, 0, none⟩) :: x1 :: .pointer (some ⟨pw, 0, none⟩) :: x3 :: x4 :: x5 :: x6 :: x7 :: x8 :: x9 :: x10 :: .pointer (some ⟨ph, 0, none⟩) :: x12 :: zX :: x14 :: x15 :: x16 :: x17 :: x18 :: x19 :: x20 :: x21 :: zy :: x23 :: x24 :: x25 :: zA :: x27 :: x28 :: x29 :: x30 :: x31 :: x32 :: BH :: []).toArray 66 (0, 0)) • dJ pb L X3 mk • dA pw (.cells #[.int .i64 place, .map (some pt)] 112 (0, 0)) • fF mQ pt (mV tx) • dZ ph hl base most • F) := by
 have hbz : (wX (iH hl tx place)).length ≤ 17179869184 := by rw [qE]; omega
 have hbi : FY (wX (iH hl tx place)) := y5 _
 have hLl : L.length ≤ 1024 := by obtain ⟨a, c, xs, f, t, h1, h2, h3, h4, h5, h6, h7, hc1, hc2, hl, H1⟩ := (H.f2).buf; exact h4
 refine gX func77 ntmps77 ?_
 dsimp only [bg, Nat.reduceAdd]
 refine ay (ah (aV rfl (aA (aj (ay (ay (ah (aO rfl (aO rfl (bH rfl (aZ 0 underlying66 rfl sizeOf62 rfl (aZ 2 underlying62 rfl sizeOf59 rfl (cO underlying59 rfl (H).get.2 rfl (bH rfl (aZ 0 underlying112 rfl sizeOf3 rfl (cO underlying3 rfl (H.f3).get.2 rfl (dw rfl func78 (nU H.f5.f5.f5.f4) ?_)))))))))))))))))
 rintro _ w1 ⟨rfl, H1⟩
 refine aV rfl (aA (aj (ay ?_)))
 have Qz := H1.drew
 have lW := aB.kp (Qz.f5.f5.f5.f5.f5)
 refine uH [7] lW rfl (fU 0 rfl lW rfl (fU 3 rfl lW rfl (iT 4 rfl lW rfl (dP 5 rfl lW 0 underlying66 rfl sizeOf62 rfl (dP 6 rfl lW 0 underlying62 rfl sizeOf57 rfl (gQ 7 rfl lW (fun W hW => iI underlying57 rfl ((Kp.h hW)).get.2 rfl) (jH 1 rfl (yE Qz underlying9 underlying135 underlying5 rfl (by omega)) ?_)))))))
 rintro l2 w2 H2
 have Ky := aB.kp (H2.f6.f6.f6.f6.f6.f6)
 refine bW Ky (fun W hW => (Kp.h hW).right.f5.f5.f5.f5.f5) ?_
 refine jH 2 rfl (rU rfl func76 (Ci H2 (by assumption) (fun W HW => (HW).zM) (by assumption) (by omega))) ?_
 rintro u3 w3 H3
 have su := aB.kp (H3.f7.f7.f7.f7.f7.f7.f7)
 refine bW su (fun W hW => (Kp.h hW).right.f6.f6.f6.f6.f6.f6) ?_
 refine jH 8 rfl (rU rfl func117 (kU H3.f7)) ?_
 rintro u4 w4 H4
 have jd := aB.kp (H4.f8.f8.f8.f8.f8.f8.f8.f8)
 refine fA jd (by kernel_rfl) ?_
 refine jH 9 rfl (rU rfl func17 (GY _ _ _ _ _ ((H4.f3).aT) ((H4).aT))) ?_
 rintro _ w5 ⟨rfl, hD5⟩
 have HD5 := H4.nH hD5
 have zQ := aB.kp (HD5.f8.f8.f8.f8.f8.f8.f8.f8)
 refine fA zQ (by kernel_rfl) ?_
 refine mg (aj (aH rfl (fun h1 => ?_) (fun h1 => ?_)))
 ·(try simp only [aG] at h1)
  have hq := h1
  refine ay (ah (aO rfl (aV rfl (aA (aj (aJ (aK (aP (.inl rfl) results77 rfl ?_))))))))
  exact ⟨by unfold Af; rw [if_pos hq], HD5.right.f2.right.f2.right.f5.f5.f5.f4.f5⟩
 ·(try simp only [aG] at h1)
  have hq := h1
  refine aS (aj (ay (ah (aO rfl (bH rfl (aZ 0 underlying66 rfl sizeOf62 rfl (aZ 0 underlying62 rfl sizeOf57 rfl (cO underlying57 rfl (HD5.f5).get.2 rfl (dw rfl func117 (kU HD5.f2) ?_)))))))))
  rintro u6 w6 H6
  refine dw rfl func139 (QC H6 (fun W HW => (HW).aT) (by assumption) (by omega)) ?_
  rintro u7 w7 H7
  refine aU (LG underlying135 underlying9 underlying5 rfl ((H7).aT)) (aV rfl (aA (aj (aJ (aP (.inl rfl) results77 rfl ?_)))))
  exact ⟨by unfold Af; rw [if_neg hq], H7.right.right.f2.right.f2.right.f2.right.f5.f5.f5.f4.f5⟩
end
end Go.Proofs.YtgmpclifphbjkaaGreatDoor
end
section
namespace Go.Proofs.YtgmpclifphbjkaaGreatDoor
open Go.RowKit
open _root_.Go.Proofs.Tryz
namespace aY
variable (s : aY)
def vX : ByteArray := Af s.hl s.c.tx s.c.place s.c.L
def rO (k : Int) : List Int := uJ (wX (if k = s.c.place then s.vX else s.stands k))
def xC (k : Int) : Int := if s.inn then (if k < 0 ∨ s.hl.length < k then 6 else if 1024 < (s.rO k).length then 6 else 0) else 1
def xE (k : Int) : aY :=
  if s.xC k = 0 then
    let t := s.bG false
    { t with whole := false, c := { t.c with tx := qY t.c.tx t.c.place (some t.vX), place := k, L := s.rO k, pt := (s.rO k).length, mark := -1, run := false } }
  else s
end aY
theorem Il {s : aY} (h : Jk s.hl s.c) (hl : ∀ x ∈ s.hl, Vq x) (hL : s.c.L.length ≤ 1024) : s.vX.size ≤ 16384 := by
  unfold aY.vX Af
  split
  · exact uz hl h.2.2 _
  · have h1 := Ij s.c.L
    have h2 : (Ik (oC s.c.L)).size = (oC s.c.L).length := by rw [N9]; show (((oC s.c.L).map fun n => UInt8.ofNat n.toNat).toArray).size = _; simp
    rw [h2]; omega
theorem Oa (s : aY) (on : Bool) : (s.bG on).hl = s.hl ∧ (s.bG on).c.tx = s.c.tx ∧ (s.bG on).c.place = s.c.place ∧ (s.bG on).c.L = s.c.L := by
  unfold aY.bG; split <;> exact ⟨rfl, rfl, rfl, rfl⟩
theorem Uf (tx : Int → Option ByteArray) (k : Int) (b : ByteArray) : upd (mV tx) k (.string b) = mV (qY tx k (some b)) := by
  funext x
  unfold upd mV qY
  split <;> rfl
theorem aB.Ug {w0 w : World} {F : HP} {b : Nat} {U : Int → List (List eH)} (H : aB w0 w (rM b U • F)) (k : Int) : dX (U k) [] ≤ 16384 := by
  obtain ⟨D, P, h1, h2, H1⟩ := H.Tc
  by_cases hk : k ∈ D
  · have H2 := H1.Td h1 h2 hk
    obtain ⟨gv, nv, gs, now, k1, _⟩ := H2.rW
    exact k1.2.1
  · rw [h2 k hk]; decide
theorem QD (s : aY) (on : Bool) : (s.bG on).put = [] := by
  unfold aY.bG; split
  · assumption
  · rfl
theorem VH {t : aY} {k : Int} {l : List Int} (h : lg t) (hp : t.put = []) (hk : ¬ (k < 0 ∨ (t.hl.length : Int) < k)) (hh : t.vX.size ≤ 16384) (hu : dX (t.c.un k) [] ≤ 16384) :
    lg { t with whole := false, c := { t.c with tx := qY t.c.tx t.c.place (some t.vX), place := k, L := l, pt := l.length, mark := -1, run := false } } := by
  obtain ⟨h1, h2, h3, h4, h5, h6⟩ := h
  refine ⟨⟨by show 0 ≤ k; omega, by show k ≤ t.hl.length; omega, fun x b hb => ?_⟩, h2, h3, h4, ?_, h6⟩
  · by_cases hx : x = t.c.place
    · subst hx
      have : some t.vX = some b := (eX t.c.tx t.c.place (some t.vX)).symm.trans hb
      cases this; exact hh
    · exact h1.2.2 x b ((qZ t.c.tx (some t.vX) hx).symm.trans hb)
  · show dX (t.c.un k) t.put ≤ 16384
    rw [hp]; exact hu
section
variable {w0 w : World} {F : HP} {e : Nat} {s : aY} {k : Int}
theorem LH (H : aB w0 w (dD e s • F)) (hT : AL w0) (hR : dF s.c.L) : fQ prog 26 #[.pointer (some ⟨e, 0, none⟩), .int .i64 k] w fun v w' => v = .int .i64 (s.xC k) ∧ aB w0 w' (dD e (s.xE k) • F) := by
 refine gX func26 ntmps26 ?_
 dsimp only [bg, Nat.reduceAdd]
 refine ay (ah (aV rfl (aA (aj (ay (ay (ah (aO rfl (dw rfl func51 (gJ H) ?_)))))))))
 rintro _ _ ⟨rfl, rfl⟩
 refine aV rfl (aA (aj (ay (ah (aO rfl (aU (bZ rfl rfl) (aA (aj (aH rfl (fun h1 => ?_) (fun h1 => ?_))))))))))
 ·(try simp only [aG] at h1)
  obtain ⟨hin, hpe⟩ := nZ h1
  refine ay (ah (aO rfl (aV rfl (aA (aj (aJ (aK (aP (.inl rfl) results26 rfl ?_))))))))
  rw [hpe]
  exact ⟨by simp [aY.xC, aY.xE, hin], by rw [show s.xE k = s from by simp [aY.xC, aY.xE, hin]]; exact H⟩
 ·(try simp only [aG] at h1)
  have hin := lq h1
  refine aS (aj (ay (ay ?_)))
  obtain ⟨nD, nN, nO, oG, nP, nR, nS, nT, mG, lu, lC, lD, lF, lG, lH, lI, lJ, lK, lM, lN, cZ, bC, gG, dn⟩ := (H).Ak
  obtain ⟨hv9, hk9, _⟩ := (dn.f7).hist
  have hLl : s.c.L.length ≤ 1024 := by obtain ⟨a, c, xs, f, t, h1, h2, h3, h4, h5, h6, h7, hc1, hc2, hl, H1⟩ := (dn.f2).buf; exact h4
  have hcl := hk9.1
  refine ah (aO rfl (aU (dL rfl rfl) (jo rfl (fun h2 => ?_) (fun h2 => ?_))))
  ·(try simp only [aG] at h2)
   have hbad : k < 0 ∨ (s.hl.length : Int) < k := .inl h2
   refine bI (bI (bI (bI (bI (bI (bI (jO rfl rfl (aA (aj (yL (ay (ah (aV rfl (aA (aj (aJ (aK (aP (.inl rfl) results26 rfl ?_))))))))))))))))))
   have hE : s.xC k = 6 := by unfold aY.xC; rw [if_pos hin, if_pos (by omega)]
   have Sj := dn.f11.f11.f11.f11.f11.f11.f11.f11.f11.f11.f11
   have Sl := aB.dG (s := s) cZ bC Sj
   exact ⟨by rw [hE], by unfold aY.xE; rw [if_neg (by rw [hE]; decide)]; exact Sl⟩
  ·(try simp only [aG] at h2)
   refine bD (aO rfl (bD (aO rfl (bD (bH rfl (bD (aZ 11 underlying66 rfl sizeOf24 rfl (bD (cO underlying24 rfl (dn).get.2 rfl (bD (dw rfl func75 (jY dn.f7) ?_)))))))))))
   rintro _ w6 ⟨rfl, H6⟩
   refine bD (aU (dQ rfl rfl) (jr rfl rfl (aA (aj (aH rfl (fun h3 => ?_) (fun h3 => ?_))))))
   ·(try simp only [aG] at h3)
    have ab2 := h3
    refine ay (ah (aV rfl (aA (aj (aJ (aK (aP (.inl rfl) results26 rfl ?_)))))))
    have hE : s.xC k = 6 := by unfold aY.xC; rw [if_pos hin, if_pos (by omega)]
    have XV := H6.f11.f11.f11.f11.f5.f11.f11.f11.f11.f11.f11
    have UR := aB.dG (s := s) cZ bC XV
    exact ⟨by rw [hE], by unfold aY.xE; rw [if_neg (by rw [hE]; decide)]; exact UR⟩
   ·(try simp only [aG] at h3)
    have hgood : ¬ (k < 0 ∨ (s.hl.length : Int) < k) := by have h9 := h3; omega
    refine aS (aj (ay ?_))
    have hsz : (iH s.hl s.c.tx s.c.place).size ≤ 16384 := uz hk9.2.2.2.2.2 cZ.1.2.2 _
    have hsk : (iH s.hl s.c.tx k).size ≤ 16384 := uz hk9.2.2.2.2.2 cZ.1.2.2 _
    have Qj : s.vX.size ≤ 16384 := Il cZ.1 hk9.2.2.2.2.2 hLl
    unfold aY.vX at Qj
    have hb1 := y5 (Af s.hl s.c.tx s.c.place s.c.L)
    have hb2 := y5 (iH s.hl s.c.tx k)
    have hb3 := qE (Af s.hl s.c.tx s.c.place s.c.L)
    have hb4 := qE (iH s.hl s.c.tx k)
    refine ah (aO rfl (dw rfl func77 (Dk H6.f6.f6.f5.f5 (by assumption) (by assumption) (by assumption)) ?_))
    rintro _ w10 ⟨rfl, oP⟩
    refine iy (yE oP underlying9 underlying135 underlying5 rfl (by omega)) ?_
    rintro l11 FT uV
    refine dw rfl func76 (Ci uV (by assumption) (fun W HW => (HW).zM) (by assumption) (by omega)) ?_
    rintro YH w12 rV
    refine aV rfl (aA (aj ?_))
    refine Am [(0, _), (1, _)] (fun (u : Value) => [(6, u)]) (fun (u : Value) W => aB w0 W (iG 21 .i32 u (s.rO k) • dD e s • F)) (Sub.cons rfl (Sub.cons rfl (Sub.nil _))) ?_ ?_
    ·rintro u MB HJ
     dsimp only [List.cons_append, List.nil_append]
     refine ay (ay (ah (aO rfl (aU (oz ((HJ).aT) underlying22 rfl) (aU (dQ rfl rfl) (aA (aj (aH rfl (fun h4 => ?_) (fun h4 => ?_)))))))))
     ·(try simp only [aG] at h4)
      have hE : s.xC k = 6 := by have h9 := h4; unfold aY.xC; rw [if_pos hin, if_neg hgood, if_pos (by omega)]
      refine ay (ah (aV rfl (aA (aj (aJ (aK (aP (.inl rfl) results26 rfl ?_)))))))
      exact ⟨by rw [hE], by unfold aY.xE; rw [if_neg (by rw [hE]; decide)]; exact HJ.right⟩
     ·(try simp only [aG] at h4)
      have hE : s.xC k = 0 := by have h9 := h4; unfold aY.xC; rw [if_pos hin, if_neg hgood, if_neg (by omega)]
      have hshort : (s.rO k).length ≤ 1024 := by have h9 := h4; omega
      refine aS (aj (ay (ah (aO rfl (dw rfl func53 (ku HJ.f2) ?_)))))
      rintro _ JE uX
      obtain ⟨t, ht, HT⟩ : ∃ t, s.bG false = t ∧ aB w0 JE (dD e t • iG 21 .i32 u (s.rO k) • F) := ⟨_, rfl, uX⟩
      obtain ⟨hfh, hft, hfp, hfL⟩ := Oa s false
      rw [ht] at hfh hft hfp hfL
      obtain ⟨nD, nN, nO, oG, nP, nR, nS, nT, mG, lu, lC, lD, lF, lG, lH, lI, lJ, lK, lM, lN, cZ, bC, gG, dn⟩ := (HT).Ak
      have hR2 : dF t.c.L := by rw [hfL]; exact hR
      have hsz2 : (iH t.hl t.c.tx t.c.place).size ≤ 16384 := by rw [hfh, hft, hfp]; exact uz hk9.2.2.2.2.2 (hft ▸ cZ.1.2.2) _
      refine aA (aj (ay ?_))
      have Uh := dn.drew
      have jS := aB.kp (Uh.f7.right.f11.f11.f11.f11.f11.f11.f11.f11.f11.f11.f11)
      refine uH [4, 7, 12, 15] jS rfl (fU 0 rfl jS rfl (iT 1 rfl jS rfl (dP 2 rfl jS 0 underlying66 rfl sizeOf62 rfl (dP 3 rfl jS 2 underlying62 rfl sizeOf59 rfl (gQ 4 rfl jS (fun W hW => iI underlying59 rfl ((Kp.h hW)).get.2 rfl) (iT 5 rfl jS rfl (dP 6 rfl jS 1 underlying112 rfl sizeOf110 rfl (gQ 7 rfl jS (fun W hW => iI underlying110 rfl ((Kp.h hW).f4).get.2 rfl) (fU 8 rfl jS rfl (iT 9 rfl jS rfl (dP 10 rfl jS 0 underlying66 rfl sizeOf62 rfl (dP 11 rfl jS 2 underlying62 rfl sizeOf59 rfl (gQ 12 rfl jS (fun W hW => iI underlying59 rfl ((Kp.h hW)).get.2 rfl) (iT 13 rfl jS rfl (dP 14 rfl jS 0 underlying112 rfl sizeOf3 rfl (gQ 15 rfl jS (fun W hW => iI underlying3 rfl ((Kp.h hW).f4).get.2 rfl) (fU 16 rfl jS rfl (jH 17 rfl (rU rfl func77 (Dk Uh.f7.f6.f6.f5.f5 (by assumption) (by assumption) (by assumption))) ?_))))))))))))))))))
      rintro _ w16 ⟨rfl, qH⟩
      have AZ := aB.kp (qH.f12.f12.f12.f12.f12.f12.f12.f12.f12.f12.f12.f12)
      refine bW AZ (fun W hW => (Kp.h hW).f5.right.f11.f11.f11.f11.f11.f11.f10.f10.f11.f11.f11) ?_
      refine dB 18 rfl (by kernel_rfl) (uq qH.f4 underlying110 underlying3 rfl rfl rfl) ?_
      rintro _ UN Aj
      have CV := aB.kp (Aj.f12.f12.f12.f12.f12.f12.f12.f12.f12.f12.f12.f12)
      refine fA CV (by kernel_rfl) ?_
      refine mg (aj (ay (ah (aO rfl (bH rfl (aZ 0 underlying66 rfl sizeOf62 rfl (aZ 2 underlying62 rfl sizeOf59 rfl (cO underlying59 rfl (Aj.f2).get.2 rfl (aO rfl (bH rfl (aZ 0 underlying112 rfl sizeOf3 rfl (aI (aN 0 (l' := [_, _]) Aj.f4 sizeOf3 rfl rfl (by first | rfl | assumption) rfl rfl) ?_))))))))))))
      rintro _ UO BF
      refine aA (aj (ay (ah (aO rfl (aO rfl (dw rfl func79 (CP BF (fun W HW => (HW.f12).aT) hshort) ?_))))))
      rintro _ UQ ⟨p19, rfl, xk⟩
      refine aO rfl (nX rfl rfl (nX rfl rfl (bH rfl (aZ 0 underlying66 rfl sizeOf62 rfl (aZ 0 underlying62 rfl sizeOf57 rfl (aI (aN 0 (l' := [_, _, _, _, _, _, _, _, _, _, _, _, _, _, _, _, _, _, _, _, _, _, _, _, _, _, _, _, _, _, _, _, _, _]) xk.f4 sizeOf57 rfl rfl (by first | rfl | assumption) rfl rfl) ?_))))))
      rintro _ Vh yR
      refine aA (aj (ay (ah (aO rfl (aO rfl (bH rfl (aZ 32 underlying66 rfl sizeOf4 rfl (aI (aN 32 (l' := [_, _, _, _, _, _, _, _, _, _, _, _, _, _, _, _, _, _, _, _, _, _, _, _, _, _, _, _, _, _, _, _, _, _]) yR sizeOf4 rfl rfl (by first | rfl | assumption) rfl rfl) ?_))))))))
      rintro _ Vj oQ
      refine bH rfl (aZ 0 underlying66 rfl sizeOf62 rfl (aZ 10 underlying62 rfl sizeOf4 rfl (aI (aN 10 (l' := [_, _, _, _, _, _, _, _, _, _, _, _, _, _, _, _, _, _, _, _, _, _, _, _, _, _, _, _, _, _, _, _, _, _]) oQ sizeOf4 rfl rfl (by first | rfl | assumption) rfl rfl) ?_)))
      rintro _ Yr DR
      refine aA (aj (ay (ah (aV rfl (aA (aj (aJ (aP (.inl rfl) results26 rfl ?_))))))))
      have hut := (DR.f8).Ug k
      have abE : t.vX.size ≤ 16384 := Il cZ.1 (hfh ▸ hk9.2.2.2.2.2) (by rw [hfL]; exact hLl)
      have HQ := DR.f5.right.f12.right.f11.f11.f11.f11.f9.f11.f10.f10.f11.f11.f11
      rw [Uf] at HQ
      exact ⟨by rw [hE], by unfold aY.xE; rw [if_pos hE]; dsimp only; rw [ht]; exact aB.dG (s := { t with whole := false, c := { t.c with tx := qY t.c.tx t.c.place (some t.vX), place := k, L := s.rO k, pt := (s.rO k).length, mark := -1, run := false } }) (VH cZ (ht ▸ QD s false) (hfh ▸ hgood) abE hut) bC HQ⟩
    ·skip
     refine ay (ah (aO rfl (aO rfl (bH rfl (aZ 0 underlying66 rfl sizeOf62 rfl (aZ 2 underlying62 rfl sizeOf59 rfl (cO underlying59 rfl (rV.f3).get.2 rfl (bH rfl (aZ 0 underlying112 rfl sizeOf3 rfl (cO underlying3 rfl (rV.f5).get.2 rfl (aU (bZ rfl rfl) (aA (aj (aH rfl (fun h5 => ?_) (fun h5 => ?_)))))))))))))))
     ·(try simp only [aG] at h5)
      have hkp : ¬ k = s.c.place := h5
      refine ah (aO rfl (aO rfl (dw rfl func78 (nU rV.f7.f7.f7.f6) ?_)))
      rintro _ RJ ⟨rfl, tY⟩
      refine iy (yE tY underlying9 underlying135 underlying5 rfl (by omega)) ?_
      rintro l24 YS GZ
      refine dw rfl func76 (Ci GZ (by assumption) (fun W HW => (HW).zM) (by assumption) (by omega)) ?_
      rintro u25 Yt G6
      refine aV rfl ?_
      have abF := G6.f15.f15.f15.f15.f10.f15.f11.f11.f15.f15.f13
      have aag := aB.dG (s := s) cZ bC abF
      refine aA ?_
      refine jW (_) (Sub.cons rfl (Sub.nil _)) (Sub.cons rfl (Sub.cons rfl (Sub.nil _))) (by (try dsimp only); exact by unfold aY.rO; first | (rw [if_pos hkp]; exact aag.f3.right.f3.right.f3.right.f2) | (rw [if_neg hkp]; exact aag.f3.right.f3.right.f3.right.f2))
     ·(try simp only [aG] at h5)
      have hkp : k = s.c.place := by have h9 := h5; simpa using h9
      have abG := rV.f13.f13.f13.f13.f11.f13.f12.f12.f13.f13.f13
      have aah := aB.dG (s := s) cZ bC abG
      refine aS ?_
      refine jW (_) (Sub.cons rfl (Sub.nil _)) (Sub.cons rfl (Sub.cons rfl (Sub.nil _))) (by (try dsimp only); exact by unfold aY.rO; first | (rw [if_pos hkp]; exact aah.f3.right.f2) | (rw [if_neg hkp]; exact aah.f3.right.f2))
end
end Go.Proofs.YtgmpclifphbjkaaGreatDoor
end
section
namespace Go.Proofs.YtgmpclifphbjkaaGreatDoor
open Go.RowKit
open _root_.Go.Proofs.Tryz
def aY.Dl (s : aY) (p : zC) : aY := if p.kd = 13 then s.xE p.a else s.edit p
section
variable {w0 w : World} {F : HP} {e : Nat} {s : aY} {v : Value} {p : zC}
theorem Jr (H : aB w0 w (dD e s • F)) (hk : p.kd = 13) (hT : AL w0) (hR : dF s.c.L) (hv1 : v.oneCell' = true) :
  fQ prog 12 #[.pointer (some ⟨e, 0, none⟩), .agg #[.int .i64 p.kd, .int .i64 p.a, .int .i64 p.b, .bool p.back, v]] w fun _ w' => aB w0 w' (dD e (s.xE p.a) • F) := by
 refine gX func12 ntmps12 ?_
 dsimp only [bg, Nat.reduceAdd]
 refine ay (ah (iy (iq (l := [_, _, _, _, _]) H rfl rfl) ?_))
 rintro _ w1 ⟨b1, rfl, H1⟩
 refine aA (aj (ay (ah (aZ 0 underlying38 rfl sizeOf3 rfl (cO underlying3 rfl (H1).get.2 rfl (aA (aj (bf (ay (ah (aU (dW rfl rfl) (aV rfl (aA (aj (aH rfl (fun h => by exfalso; (try simp only [aG] at h); exact absurd (show p.kd = 0 from h) (by omega)) (fun h1 => ?_))))))))))))))))
 (try simp only [aG] at h1)
 refine ay (ah (aU (dW rfl rfl) (aV rfl (aA (aj (aH rfl (fun h => by exfalso; (try simp only [aG] at h); exact absurd (show p.kd = 1 from h) (by omega)) (fun h2 => ?_)))))))
 (try simp only [aG] at h2)
 refine ay (ah (aU (dW rfl rfl) (aV rfl (aA (aj (aH rfl (fun h => by exfalso; (try simp only [aG] at h); exact absurd (show p.kd = 2 from h) (by omega)) (fun h3 => ?_)))))))
 (try simp only [aG] at h3)
 refine ay (ah (aU (dW rfl rfl) (aV rfl (aA (aj (aH rfl (fun h => by exfalso; (try simp only [aG] at h); exact absurd (show p.kd = 3 from h) (by omega)) (fun h4 => ?_)))))))
 (try simp only [aG] at h4)
 refine ay (ah (aU (dW rfl rfl) (aV rfl (aA (aj (aH rfl (fun h => by exfalso; (try simp only [aG] at h); exact absurd (show p.kd = 4 from h) (by omega)) (fun h5 => ?_)))))))
 (try simp only [aG] at h5)
 refine ay (ah (aU (dW rfl rfl) (aV rfl (aA (aj (aH rfl (fun h => by exfalso; (try simp only [aG] at h); exact absurd (show p.kd = 5 from h) (by omega)) (fun h6 => ?_)))))))
 (try simp only [aG] at h6)
 refine ay (ah (aU (dW rfl rfl) (aV rfl (aA (aj (aH rfl (fun h => by exfalso; (try simp only [aG] at h); exact absurd (show p.kd = 6 from h) (by omega)) (fun h7 => ?_)))))))
 (try simp only [aG] at h7)
 refine ay (ah (aU (dW rfl rfl) (aV rfl (aA (aj (aH rfl (fun h => by exfalso; (try simp only [aG] at h); exact absurd (show p.kd = 7 from h) (by omega)) (fun h8 => ?_)))))))
 (try simp only [aG] at h8)
 refine ay (ah (aU (dW rfl rfl) (aV rfl (aA (aj (aH rfl (fun h => by exfalso; (try simp only [aG] at h); exact absurd (show p.kd = 8 from h) (by omega)) (fun h9 => ?_)))))))
 (try simp only [aG] at h9)
 refine ay (ah (aU (dW rfl rfl) (aV rfl (aA (aj (aH rfl (fun h => by exfalso; (try simp only [aG] at h); exact absurd (show p.kd = 9 from h) (by omega)) (fun h10 => ?_)))))))
 (try simp only [aG] at h10)
 refine ay (ah (aU (dW rfl rfl) (aV rfl (aA (aj (aH rfl (fun h => by exfalso; (try simp only [aG] at h); exact absurd (show p.kd = 10 from h) (by omega)) (fun h11 => ?_)))))))
 (try simp only [aG] at h11)
 refine ay (ah (aU (dW rfl rfl) (aV rfl (aA (aj (aH rfl (fun h => by exfalso; (try simp only [aG] at h); exact absurd (show p.kd = 11 from h) (by omega)) (fun h12 => ?_)))))))
 (try simp only [aG] at h12)
 refine ay (ah (aU (dW rfl rfl) (aV rfl (aA (aj (aH rfl (fun h13 => ?_) (fun h => by exfalso; (try simp only [aG] at h); exact h hk)))))))
 (try simp only [aG] at h13)
 refine ah (aO rfl (aZ 1 underlying38 rfl sizeOf3 rfl (cO underlying3 rfl (H1).get.2 rfl (dw rfl func26 (LH H1.f2 (by assumption) (by assumption)) ?_))))
 rintro _ w2 ⟨rfl, H2⟩
 refine aA (aQ (dN (.inr rfl) results12 ?_))
 exact H2.f2.right
theorem Bv (H : aB w0 w (dD e s • F)) (hr : iU w0 F .i32 v p.text) (hb : p.text.length ≤ 35184372087808) (hT : AL w0) (hR : dF s.c.L) :
    fQ prog 12 #[.pointer (some ⟨e, 0, none⟩), .agg #[.int .i64 p.kd, .int .i64 p.a, .int .i64 p.b, .bool p.back, v]] w fun _ w' => aB w0 w' (dD e (s.Dl p) • F) := by
  unfold aY.Dl
  by_cases hk : p.kd = 13
  · rw [if_pos hk]; exact Jr H hk hT hR (Rd.one (hr _ H.right))
  · rw [if_neg hk]; exact Lm H hr hb hk
end
end Go.Proofs.YtgmpclifphbjkaaGreatDoor
end
