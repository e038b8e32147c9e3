import Derived.Test.YtddekefihgejoaaGreatDoorZ2
import Derived.Test.YtddekefihgejoaaGreatDoorZ4
import Derived.Test.YtddekefihgejoaaGreatDoorZ15
import Derived.Laws.IdiomStrings
import Derived.Test.YtddekefihgejoaaGreatDoorZ12
import Derived.Test.YtddekefihgejoaaGreatDoorZ11
set_option linter.unusedSimpArgs false
set_option linter.unusedVariables false
/- Texts of mine, joined, their names in short: Utf2 Utf3 Utf4 Utf5 StrB EdG EdGo. -/
section
namespace Go.Proofs.YtddekefihgejoaaGreatDoor
open Go.RowKit
open _root_.Go.Proofs.Tryz
theorem OG {r : Int} (h : iy r = false) : Lib.encodeRuneZ r = [239, 191, 189] := Lib.encodeRuneZ_bad (by
  unfold iy at h
  simp only [decide_eq_false_iff_not] at h
  omega)
section
variable {w0 w : World} {F : HP} {v : Value} {b l : List Int} {r x y : Int}
theorem Le (H : aB w0 w F) (hT : tZ w0) (hv : iT w0 F .u8 v b) (hb : Io b) (hne : b ≠ []) : fE prog 106 #[v] w fun v' w' => v' = .tuple #[.int .i32 (nV b).1, .int .i64 ((nV b).2 : Nat)] ∧ aB w0 w' F := by
 have hl := List.length_pos_iff.2 hne
 have y0 := Dc hb 0
 refine gy func106 ntmps106 ?_
 dsimp only [aY, Nat.reduceAdd]
 refine ay (ah (aV rfl (aV rfl (aA (aj (ay (ay (ah (aN rfl (aU (gG (hv _ (H)) underlying104 rfl) (aN rfl (aA (aj (bf ?_))))))))))))))
 obtain ⟨av, cv, ev, -⟩ := iV.open (hv _ (H))
 subst ev
 refine fH [(0, _), (6, _), (7, _)] (fun (k : Nat) => [(8, .int .i64 (k : Int))]) (fun (k : Nat) W => k = 0 ∧ aB w0 W F) (fun (k : Nat) => 0) (0) (Sub.cons rfl (Sub.cons rfl (Sub.cons rfl (Sub.nil _)))) (Sub.cons rfl (Sub.nil _)) ⟨rfl, H⟩ ?_
 rintro k w2 ⟨rfl, HL⟩
 dsimp only [List.cons_append, List.nil_append]
 refine ay (ah (aU (eu rfl rfl) (aA (aj (ay (aP rfl (fun h1 => ?_) (fun h => by exfalso; (try simp only [aI] at h); first | contradiction | omega | (simp at h <;> omega))))))))
 (try simp only [aI] at h1)
 refine aT (aj (ay (bf (ay (ah ?_)))))
 obtain ⟨bv, ov, rfl⟩ := iV.pos (hv _ (HL)) (by omega)
 refine aU (cZ underlying104 sizeOf5 rfl rfl (by omega)) ?_
 refine aU (fJ (bW underlying5 rfl) rfl (by first | exact iV.pX (hv _ (HL)) (by omega) | exact iV.Es (hv _ (HL)) (by omega) | exact iV.CY (hv _ (HL)) (by omega))) ?_
 simp only [Int.natCast_zero]
 refine aV rfl (aA (aj (ay (ay (ah (aN rfl (aU (eu rfl rfl) (aA (aj (aP rfl (fun h2 => ?_) (fun h2 => ?_)))))))))))
 ·(try simp only [aI] at h2)
  refine ay (ah (aN rfl ?_))
  refine aU (iq rfl (by rw [underlying5]; rfl) underlying21 (je (by omega))) ?_
  refine aV rfl (aV rfl (aA (aj (aJ (aK (aX (aK (aK (aX (aK (fV (.inl rfl) results106 rfl rfl ?_)))))))))))
  exact ⟨by rw [Df hne (by omega)]; rfl, HL⟩
 ·(try simp only [aI] at h2)
  refine aT (aj (dL ?_))
  refine jW (by decide) ?_
  refine aW (aW (bD (aj (ay (ah (aN rfl (dw rfl func152 (PS HL hT (fun W HW => hv _ (HW)) (by assumption) (by assumption)) ?_)))))))
  rintro _ w3 ⟨rfl, H3⟩
  refine aN rfl (yA rfl rfl (yA rfl rfl (aV rfl (aV rfl (aA (aj (aJ (fV (.inl rfl) results106 rfl rfl ?_))))))))
  exact ⟨rfl, H3⟩
theorem Jw (H : aB w0 w (gZ 5 .u8 v l • F)) (hl : l.length ≤ 70368744177664) (hr : ¬ (0 ≤ r ∧ r ≤ 127)) (hw : -2147483648 ≤ r ∧ r < 2147483648) :
  fE prog 180 #[v, .int .i32 r] w fun v' w' => aB w0 w' (gZ 5 .u8 v' (l ++ Lib.encodeRuneZ r) • F) := by
 refine gy func180 ntmps180 ?_
 dsimp only [aY, Nat.reduceAdd]
 refine ay (ah (aV rfl (aA (aj (ay (ah (aN rfl ?_)))))))
 refine aU (C9 rfl (by rw [underlying21]; rfl) underlying253) ?_
 refine aV rfl (aA (aj (bf (ay (ah (aN rfl (aU (vO rfl rfl) (aV rfl (aA (aj (aP rfl (fun h1 => ?_) (fun h1 => ?_))))))))))))
 ·(try simp only [aI] at h1)
  refine ay (ah (aN rfl (aN rfl (aU (qW 6 64 (by decide) (by decide) rfl rfl) ?_))))
  refine aU (eG rfl (by rw [underlying21]; rfl) underlying5) ?_
  refine aU (iL 6 64 (by decide) rfl rfl (by omega)) (aN rfl ?_)
  refine aU (eG rfl (by rw [underlying21]; rfl) underlying5) ?_
  refine aU (eU 6 63 64 (by decide) (by decide) (by decide) rfl rfl (by omega)) (aU (iL 7 128 (by decide) rfl rfl (by omega)) (gq (gB (k := .u8) (l := [_, _]) H underlying104 sizeOf5 zeroValue5 rfl rfl rfl (by decide)) ?_))
  rintro l1 w1 H1
  refine gq (dG H1.f2 ((H1).aO) underlying104 (show (prog.info? 5).map (fun i => (i.zero, i.size, i.bytes)) = some (some (.int .u8 0), 1, 1) by kernel_rfl) rfl rfl (by first | omega | (simp only [List.length_append, List.length_nil, List.length_cons]; omega) | (simp; omega)) (by first | omega | (simp only [List.length_append, List.length_nil, List.length_cons]; omega) | (simp; omega))) ?_
  rintro l2 w2 H2
  try simp only [List.nil_append] at H2
  refine aV rfl (aA (aj (aJ (aX (aQ (.inl rfl) results180 rfl ?_)))))
  rw [Lib.encodeRuneZ_two (by omega) (by omega)]
  have HX := H2.f2.right
  rw [show r / 64 % 256 = r / 64 from by omega, show r % 256 % 64 = r % 64 from by omega] at HX
  exact HX
 ·(try simp only [aI] at h1)
  refine ay (ay (ah (aN rfl (aU (eu rfl rfl) (aV rfl (aA (aj (aP rfl (fun h2 => ?_) (fun h2 => ?_)))))))))
  ·(try simp only [aI] at h2)
   refine aT (aj (aP rfl (fun h3 => ?_) (fun h3 => ?_)))
   ·(try simp only [aI] at h3)
    refine ay (ah (aN rfl (aN rfl (aU (qW 12 4096 (by decide) (by decide) rfl rfl) ?_))))
    refine aU (eG rfl (by rw [underlying21]; rfl) underlying5) ?_
    refine aU (iL 5 32 (by decide) rfl rfl (by omega)) (aN rfl (aU (qW 6 64 (by decide) (by decide) rfl rfl) ?_))
    refine aU (eG rfl (by rw [underlying21]; rfl) underlying5) ?_
    refine aU (eU 6 63 64 (by decide) (by decide) (by decide) rfl rfl (by omega)) (aU (iL 7 128 (by decide) rfl rfl (by omega)) (aN rfl ?_))
    refine aU (eG rfl (by rw [underlying21]; rfl) underlying5) ?_
    refine aU (eU 6 63 64 (by decide) (by decide) (by decide) rfl rfl (by omega)) (aU (iL 7 128 (by decide) rfl rfl (by omega)) (gq (gB (k := .u8) (l := [_, _, _]) H underlying104 sizeOf5 zeroValue5 rfl rfl rfl (by decide)) ?_))
    rintro l3 w3 H3
    refine gq (dG H3.f2 ((H3).aO) underlying104 (show (prog.info? 5).map (fun i => (i.zero, i.size, i.bytes)) = some (some (.int .u8 0), 1, 1) by kernel_rfl) rfl rfl (by first | omega | (simp only [List.length_append, List.length_nil, List.length_cons]; omega) | (simp; omega)) (by first | omega | (simp only [List.length_append, List.length_nil, List.length_cons]; omega) | (simp; omega))) ?_
    rintro l4 w4 H4
    try simp only [List.nil_append] at H4
    refine aV rfl (aA (aj (aJ (aX (aQ (.inl rfl) results180 rfl ?_)))))
    rw [Lib.encodeRuneZ_three (by omega)]
    have HX := H4.f2.right
    rw [show r / 4096 % 256 = r / 4096 from by omega, show r / 64 % 256 % 64 = r / 64 % 64 from by omega, show r % 256 % 64 = r % 64 from by omega] at HX
    exact HX
   ·(try simp only [aI] at h3)
    refine ay (ah (aN rfl (aU (fZ rfl rfl) (jy rfl (fun h4 => ?_) (fun h4 => ?_)))))
    ·(try simp only [aI] at h4)
     refine bC (aN rfl (bC (aU (vO rfl rfl) (jw rfl rfl (aV rfl (aA (aj (aP rfl (fun h5 => ?_) (fun h5 => ?_)))))))))
     ·(try simp only [aI] at h5)
      refine ay (ah (aN rfl (aN rfl (aU (qW 18 262144 (by decide) (by decide) rfl rfl) ?_))))
      refine aU (eG rfl (by rw [underlying21]; rfl) underlying5) ?_
      refine aU (iL 4 16 (by decide) rfl rfl (by omega)) (aN rfl (aU (qW 12 4096 (by decide) (by decide) rfl rfl) ?_))
      refine aU (eG rfl (by rw [underlying21]; rfl) underlying5) ?_
      refine aU (eU 6 63 64 (by decide) (by decide) (by decide) rfl rfl (by omega)) (aU (iL 7 128 (by decide) rfl rfl (by omega)) (aN rfl (aU (qW 6 64 (by decide) (by decide) rfl rfl) ?_)))
      refine aU (eG rfl (by rw [underlying21]; rfl) underlying5) ?_
      refine aU (eU 6 63 64 (by decide) (by decide) (by decide) rfl rfl (by omega)) (aU (iL 7 128 (by decide) rfl rfl (by omega)) (aN rfl ?_))
      refine aU (eG rfl (by rw [underlying21]; rfl) underlying5) ?_
      refine aU (eU 6 63 64 (by decide) (by decide) (by decide) rfl rfl (by omega)) (aU (iL 7 128 (by decide) rfl rfl (by omega)) (gq (gB (k := .u8) (l := [_, _, _, _]) H underlying104 sizeOf5 zeroValue5 rfl rfl rfl (by decide)) ?_))
      rintro l5 w5 H5
      refine gq (dG H5.f2 ((H5).aO) underlying104 (show (prog.info? 5).map (fun i => (i.zero, i.size, i.bytes)) = some (some (.int .u8 0), 1, 1) by kernel_rfl) rfl rfl (by first | omega | (simp only [List.length_append, List.length_nil, List.length_cons]; omega) | (simp; omega)) (by first | omega | (simp only [List.length_append, List.length_nil, List.length_cons]; omega) | (simp; omega))) ?_
      rintro l6 w6 H6
      try simp only [List.nil_append] at H6
      refine aV rfl (aA (aj (aJ (aX (aQ (.inl rfl) results180 rfl ?_)))))
      rw [Lib.encodeRuneZ_four (by omega) (by omega)]
      have HX := H6.f2.right
      rw [show r / 262144 % 256 = r / 262144 from by omega, show r / 4096 % 256 % 64 = r / 4096 % 64 from by omega, show r / 64 % 256 % 64 = r / 64 % 64 from by omega, show r % 256 % 64 = r % 64 from by omega] at HX
      exact HX
     ·(try simp only [aI] at h5)
      refine ay (ah (aN rfl (gq (gB (k := .u8) (l := [239, 191, 189]) H underlying104 sizeOf5 zeroValue5 rfl rfl rfl (by decide)) ?_)))
      rintro l7 w7 H7
      refine gq (dG H7.f2 ((H7).aO) underlying104 (show (prog.info? 5).map (fun i => (i.zero, i.size, i.bytes)) = some (some (.int .u8 0), 1, 1) by kernel_rfl) rfl rfl (by first | omega | (simp only [List.length_append, List.length_nil, List.length_cons]; omega) | (simp; omega)) (by first | omega | (simp only [List.length_append, List.length_nil, List.length_cons]; omega) | (simp; omega))) ?_
      rintro l8 w8 H8
      try simp only [List.nil_append] at H8
      refine aV rfl (aA (aj (aJ (aX (aQ (.inl rfl) results180 rfl ?_)))))
      rw [Lib.encodeRuneZ_bad (by omega)]
      exact H8.f2.right
    ·(try simp only [aI] at h4)
     refine bF (bF (iU rfl rfl (aV rfl (aA (aj (pJ (ay (ah (aN rfl (gq (gB (k := .u8) (l := [239, 191, 189]) H underlying104 sizeOf5 zeroValue5 rfl rfl rfl (by decide)) ?_))))))))))
     rintro l9 w9 H9
     refine gq (dG H9.f2 ((H9).aO) underlying104 (show (prog.info? 5).map (fun i => (i.zero, i.size, i.bytes)) = some (some (.int .u8 0), 1, 1) by kernel_rfl) rfl rfl (by first | omega | (simp only [List.length_append, List.length_nil, List.length_cons]; omega) | (simp; omega)) (by first | omega | (simp only [List.length_append, List.length_nil, List.length_cons]; omega) | (simp; omega))) ?_
     rintro l10 w10 qH
     try simp only [List.nil_append] at qH
     refine aV rfl (aA (aj (aJ (aX (aQ (.inl rfl) results180 rfl ?_)))))
     rw [Lib.encodeRuneZ_bad (by omega)]
     exact qH.f2.right
  ·(try simp only [aI] at h2)
   refine ah (aN rfl (aU (eu rfl rfl) (jy rfl (fun h6 => ?_) (fun h6 => ?_))))
   ·(try simp only [aI] at h6)
    refine bC (aN rfl (bC (aU (vO rfl rfl) (jw rfl rfl (aV rfl (aA (aj (aP rfl (fun h7 => ?_) (fun h7 => ?_)))))))))
    ·(try simp only [aI] at h7)
     refine ay (ah (aN rfl (aN rfl (aU (qW 12 4096 (by decide) (by decide) rfl rfl) ?_))))
     refine aU (eG rfl (by rw [underlying21]; rfl) underlying5) ?_
     refine aU (iL 5 32 (by decide) rfl rfl (by omega)) (aN rfl (aU (qW 6 64 (by decide) (by decide) rfl rfl) ?_))
     refine aU (eG rfl (by rw [underlying21]; rfl) underlying5) ?_
     refine aU (eU 6 63 64 (by decide) (by decide) (by decide) rfl rfl (by omega)) (aU (iL 7 128 (by decide) rfl rfl (by omega)) (aN rfl ?_))
     refine aU (eG rfl (by rw [underlying21]; rfl) underlying5) ?_
     refine aU (eU 6 63 64 (by decide) (by decide) (by decide) rfl rfl (by omega)) (aU (iL 7 128 (by decide) rfl rfl (by omega)) (gq (gB (k := .u8) (l := [_, _, _]) H underlying104 sizeOf5 zeroValue5 rfl rfl rfl (by decide)) ?_))
     rintro XI Hr uQ
     refine gq (dG uQ.f2 ((uQ).aO) underlying104 (show (prog.info? 5).map (fun i => (i.zero, i.size, i.bytes)) = some (some (.int .u8 0), 1, 1) by kernel_rfl) rfl rfl (by first | omega | (simp only [List.length_append, List.length_nil, List.length_cons]; omega) | (simp; omega)) (by first | omega | (simp only [List.length_append, List.length_nil, List.length_cons]; omega) | (simp; omega))) ?_
     rintro l12 w12 uf
     try simp only [List.nil_append] at uf
     refine aV rfl (aA (aj (aJ (aX (aQ (.inl rfl) results180 rfl ?_)))))
     rw [Lib.encodeRuneZ_three (by omega)]
     have HX := uf.f2.right
     rw [show r / 4096 % 256 = r / 4096 from by omega, show r / 64 % 256 % 64 = r / 64 % 64 from by omega, show r % 256 % 64 = r % 64 from by omega] at HX
     exact HX
    ·(try simp only [aI] at h7)
     refine ay (ah (aN rfl (aU (fZ rfl rfl) (jy rfl (fun h8 => ?_) (fun h8 => ?_)))))
     ·(try simp only [aI] at h8)
      refine bC (aN rfl (bC (aU (vO rfl rfl) (jw rfl rfl (aV rfl (aA (aj (aP rfl (fun h9 => ?_) (fun h9 => ?_)))))))))
      ·(try simp only [aI] at h9)
       refine ay (ah (aN rfl (aN rfl (aU (qW 18 262144 (by decide) (by decide) rfl rfl) ?_))))
       refine aU (eG rfl (by rw [underlying21]; rfl) underlying5) ?_
       refine aU (iL 4 16 (by decide) rfl rfl (by omega)) (aN rfl (aU (qW 12 4096 (by decide) (by decide) rfl rfl) ?_))
       refine aU (eG rfl (by rw [underlying21]; rfl) underlying5) ?_
       refine aU (eU 6 63 64 (by decide) (by decide) (by decide) rfl rfl (by omega)) (aU (iL 7 128 (by decide) rfl rfl (by omega)) (aN rfl (aU (qW 6 64 (by decide) (by decide) rfl rfl) ?_)))
       refine aU (eG rfl (by rw [underlying21]; rfl) underlying5) ?_
       refine aU (eU 6 63 64 (by decide) (by decide) (by decide) rfl rfl (by omega)) (aU (iL 7 128 (by decide) rfl rfl (by omega)) (aN rfl ?_))
       refine aU (eG rfl (by rw [underlying21]; rfl) underlying5) ?_
       refine aU (eU 6 63 64 (by decide) (by decide) (by decide) rfl rfl (by omega)) (aU (iL 7 128 (by decide) rfl rfl (by omega)) (gq (gB (k := .u8) (l := [_, _, _, _]) H underlying104 sizeOf5 zeroValue5 rfl rfl rfl (by decide)) ?_))
       rintro l13 NY xC
       refine gq (dG xC.f2 ((xC).aO) underlying104 (show (prog.info? 5).map (fun i => (i.zero, i.size, i.bytes)) = some (some (.int .u8 0), 1, 1) by kernel_rfl) rfl rfl (by first | omega | (simp only [List.length_append, List.length_nil, List.length_cons]; omega) | (simp; omega)) (by first | omega | (simp only [List.length_append, List.length_nil, List.length_cons]; omega) | (simp; omega))) ?_
       rintro Zp NZ yB
       try simp only [List.nil_append] at yB
       refine aV rfl (aA (aj (aJ (aX (aQ (.inl rfl) results180 rfl ?_)))))
       rw [Lib.encodeRuneZ_four (by omega) (by omega)]
       have HX := yB.f2.right
       rw [show r / 262144 % 256 = r / 262144 from by omega, show r / 4096 % 256 % 64 = r / 4096 % 64 from by omega, show r / 64 % 256 % 64 = r / 64 % 64 from by omega, show r % 256 % 64 = r % 64 from by omega] at HX
       exact HX
      ·(try simp only [aI] at h9)
       refine ay (ah (aN rfl (gq (gB (k := .u8) (l := [239, 191, 189]) H underlying104 sizeOf5 zeroValue5 rfl rfl rfl (by decide)) ?_)))
       rintro l15 PY wC
       refine gq (dG wC.f2 ((wC).aO) underlying104 (show (prog.info? 5).map (fun i => (i.zero, i.size, i.bytes)) = some (some (.int .u8 0), 1, 1) by kernel_rfl) rfl rfl (by first | omega | (simp only [List.length_append, List.length_nil, List.length_cons]; omega) | (simp; omega)) (by first | omega | (simp only [List.length_append, List.length_nil, List.length_cons]; omega) | (simp; omega))) ?_
       rintro YT w16 qY
       try simp only [List.nil_append] at qY
       refine aV rfl (aA (aj (aJ (aX (aQ (.inl rfl) results180 rfl ?_)))))
       rw [Lib.encodeRuneZ_bad (by omega)]
       exact qY.f2.right
     ·(try simp only [aI] at h8)
      refine bF (bF (iU rfl rfl (aV rfl (aA (aj (pJ (ay (ah (aN rfl (gq (gB (k := .u8) (l := [239, 191, 189]) H underlying104 sizeOf5 zeroValue5 rfl rfl rfl (by decide)) ?_))))))))))
      rintro l17 Tz yC
      refine gq (dG yC.f2 ((yC).aO) underlying104 (show (prog.info? 5).map (fun i => (i.zero, i.size, i.bytes)) = some (some (.int .u8 0), 1, 1) by kernel_rfl) rfl rfl (by first | omega | (simp only [List.length_append, List.length_nil, List.length_cons]; omega) | (simp; omega)) (by first | omega | (simp only [List.length_append, List.length_nil, List.length_cons]; omega) | (simp; omega))) ?_
      rintro l18 Sv zB
      try simp only [List.nil_append] at zB
      refine aV rfl (aA (aj (aJ (aX (aQ (.inl rfl) results180 rfl ?_)))))
      rw [Lib.encodeRuneZ_bad (by omega)]
      exact zB.f2.right
   ·(try simp only [aI] at h6)
    refine bF (bF (iU rfl rfl (aV rfl (aA (aj (pJ (ay (ah (aN rfl (aU (fZ rfl rfl) (jy rfl (fun h10 => ?_) (fun h10 => ?_))))))))))))
    ·(try simp only [aI] at h10)
     refine bC (aN rfl (bC (aU (vO rfl rfl) (jw rfl rfl (aV rfl (aA (aj (aP rfl (fun h11 => ?_) (fun h11 => ?_)))))))))
     ·(try simp only [aI] at h11)
      refine ay (ah (aN rfl (aN rfl (aU (qW 18 262144 (by decide) (by decide) rfl rfl) ?_))))
      refine aU (eG rfl (by rw [underlying21]; rfl) underlying5) ?_
      refine aU (iL 4 16 (by decide) rfl rfl (by omega)) (aN rfl (aU (qW 12 4096 (by decide) (by decide) rfl rfl) ?_))
      refine aU (eG rfl (by rw [underlying21]; rfl) underlying5) ?_
      refine aU (eU 6 63 64 (by decide) (by decide) (by decide) rfl rfl (by omega)) (aU (iL 7 128 (by decide) rfl rfl (by omega)) (aN rfl (aU (qW 6 64 (by decide) (by decide) rfl rfl) ?_)))
      refine aU (eG rfl (by rw [underlying21]; rfl) underlying5) ?_
      refine aU (eU 6 63 64 (by decide) (by decide) (by decide) rfl rfl (by omega)) (aU (iL 7 128 (by decide) rfl rfl (by omega)) (aN rfl ?_))
      refine aU (eG rfl (by rw [underlying21]; rfl) underlying5) ?_
      refine aU (eU 6 63 64 (by decide) (by decide) (by decide) rfl rfl (by omega)) (aU (iL 7 128 (by decide) rfl rfl (by omega)) (gq (gB (k := .u8) (l := [_, _, _, _]) H underlying104 sizeOf5 zeroValue5 rfl rfl rfl (by decide)) ?_))
      rintro l19 PZ uY
      refine gq (dG uY.f2 ((uY).aO) underlying104 (show (prog.info? 5).map (fun i => (i.zero, i.size, i.bytes)) = some (some (.int .u8 0), 1, 1) by kernel_rfl) rfl rfl (by first | omega | (simp only [List.length_append, List.length_nil, List.length_cons]; omega) | (simp; omega)) (by first | omega | (simp only [List.length_append, List.length_nil, List.length_cons]; omega) | (simp; omega))) ?_
      rintro XT Sz yD
      try simp only [List.nil_append] at yD
      refine aV rfl (aA (aj (aJ (aX (aQ (.inl rfl) results180 rfl ?_)))))
      rw [Lib.encodeRuneZ_four (by omega) (by omega)]
      have HX := yD.f2.right
      rw [show r / 262144 % 256 = r / 262144 from by omega, show r / 4096 % 256 % 64 = r / 4096 % 64 from by omega, show r / 64 % 256 % 64 = r / 64 % 64 from by omega, show r % 256 % 64 = r % 64 from by omega] at HX
      exact HX
     ·(try simp only [aI] at h11)
      refine ay (ah (aN rfl (gq (gB (k := .u8) (l := [239, 191, 189]) H underlying104 sizeOf5 zeroValue5 rfl rfl rfl (by decide)) ?_)))
      rintro ZN TA oV
      refine gq (dG oV.f2 ((oV).aO) underlying104 (show (prog.info? 5).map (fun i => (i.zero, i.size, i.bytes)) = some (some (.int .u8 0), 1, 1) by kernel_rfl) rfl rfl (by first | omega | (simp only [List.length_append, List.length_nil, List.length_cons]; omega) | (simp; omega)) (by first | omega | (simp only [List.length_append, List.length_nil, List.length_cons]; omega) | (simp; omega))) ?_
      rintro l22 Xf JX
      try simp only [List.nil_append] at JX
      refine aV rfl (aA (aj (aJ (aX (aQ (.inl rfl) results180 rfl ?_)))))
      rw [Lib.encodeRuneZ_bad (by omega)]
      exact JX.f2.right
    ·(try simp only [aI] at h10)
     refine bF (bF (iU rfl rfl (aV rfl (aA (aj (pJ (ay (ah (aN rfl (gq (gB (k := .u8) (l := [239, 191, 189]) H underlying104 sizeOf5 zeroValue5 rfl rfl rfl (by decide)) ?_))))))))))
     rintro l23 O7 rV
     refine gq (dG rV.f2 ((rV).aO) underlying104 (show (prog.info? 5).map (fun i => (i.zero, i.size, i.bytes)) = some (some (.int .u8 0), 1, 1) by kernel_rfl) rfl rfl (by first | omega | (simp only [List.length_append, List.length_nil, List.length_cons]; omega) | (simp; omega)) (by first | omega | (simp only [List.length_append, List.length_nil, List.length_cons]; omega) | (simp; omega))) ?_
     rintro l24 YN SA
     try simp only [List.nil_append] at SA
     refine aV rfl (aA (aj (aJ (aX (aQ (.inl rfl) results180 rfl ?_)))))
     rw [Lib.encodeRuneZ_bad (by omega)]
     exact SA.f2.right
end
end Go.Proofs.YtddekefihgejoaaGreatDoor
end
section
namespace Go.Proofs.YtddekefihgejoaaGreatDoor
open Go.RowKit
open _root_.Go.Proofs.Tryz
section
variable {w0 w : World} {F : HP} {v : Value} {b l : List Int} {r x y : Int}
theorem zu (H : aB w0 w (gZ 5 .u8 v l • F)) (hl : l.length ≤ 70368744177664) (hw : -2147483648 ≤ r ∧ r < 2147483648) :
  fE prog 170 #[v, .int .i32 r] w fun v' w' => aB w0 w' (gZ 5 .u8 v' (l ++ Lib.encodeRuneZ r) • F) := by
 refine gy func170 ntmps170 ?_
 dsimp only [aY, Nat.reduceAdd]
 refine ay (ah (aV rfl (aA (aj (ay (ay (ah (aN rfl ?_))))))))
 refine aU (C9 rfl (by rw [underlying21]; rfl) underlying253) ?_
 refine aU (vO rfl rfl) (aA (aj (aP rfl (fun h1 => ?_) (fun h1 => ?_))))
 ·(try simp only [aI] at h1)
  refine ay (ah (aN rfl (aN rfl ?_)))
  refine aU (eG rfl (by rw [underlying21]; rfl) underlying5) ?_
  refine gq (gB (k := .u8) (l := [_]) H underlying104 sizeOf5 zeroValue5 rfl rfl rfl (by decide)) ?_
  rintro l1 w1 H1
  refine gq (dG H1.f2 ((H1).aO) underlying104 (show (prog.info? 5).map (fun i => (i.zero, i.size, i.bytes)) = some (some (.int .u8 0), 1, 1) by kernel_rfl) rfl rfl (by first | omega | (simp only [List.length_append, List.length_nil, List.length_cons]; omega) | (simp; omega)) (by first | omega | (simp only [List.length_append, List.length_nil, List.length_cons]; omega) | (simp; omega))) ?_
  rintro l2 w2 H2
  try simp only [List.nil_append] at H2
  refine aV rfl (aA (aj (aJ (aK (aQ (.inl rfl) results170 rfl ?_)))))
  rw [Lib.encodeRuneZ_one (by omega) (by omega)]
  have HX := H2.f2.right
  rw [show r % 256 = r from by omega] at HX
  exact HX
 ·(try simp only [aI] at h1)
  refine aT (aj (ay (ah (aN rfl (aN rfl (dw rfl func180 (Jw H (by omega) (by omega) hw) ?_))))))
  rintro u3 w3 H3
  refine aV rfl (aA (aj (aJ (aQ (.inl rfl) results170 rfl ?_))))
  exact H3
end
end Go.Proofs.YtddekefihgejoaaGreatDoor
end
section
namespace Go.Proofs.YtddekefihgejoaaGreatDoor
open Go.RowKit
section
variable {w0 w : World} {F : HP} {v : Value} {b l : List Int} {r x y : Int}
end
end Go.Proofs.YtddekefihgejoaaGreatDoor
end
section
namespace Go.Proofs.YtddekefihgejoaaGreatDoor
open Go.RowKit
open _root_.Go.Proofs.Tryz
theorem OH {b : List Int} (h : Io b) (n : Nat) : Io (b.drop n) := fun x hx => h x (List.mem_of_mem_drop hx)
theorem Bc (l : List Int) (k : Nat) (h : k < l.length) : lN (l.take (k + 1)) = lN (l.take k) ++ Lib.encodeRuneZ (l.getD k 0) := by
  unfold lN
  rw [List.take_succ_eq_append_getElem h, List.flatMap_append, List.getD_eq_getElem?_getD, List.getElem?_eq_getElem h]
  simp
theorem FB (l : List Int) : (lN l).length ≤ 4 * l.length := by
  induction l with
  | nil => simp [lN]
  | cons x r ih =>
    have h1 : lN (x :: r) = Lib.encodeRuneZ x ++ lN r := by simp [lN]
    have := (Lib.encodeRuneZ_length x).2
    rw [h1, List.length_append, List.length_cons]
    omega
theorem Ub {l : List Int} (k : Nat) : (lN (l.take k)).length ≤ 4 * l.length := by
  have := FB (l.take k)
  rw [List.length_take] at this
  omega
def tu (l : List Int) : Prop := ∀ x ∈ l, -2147483648 ≤ x ∧ x < 2147483648
theorem V5 {l : List Int} (h : tu l) {k : Nat} (hk : k < l.length) : -2147483648 ≤ l.getD k 0 ∧ l.getD k 0 < 2147483648 := by
  rw [List.getD_eq_getElem?_getD, List.getElem?_eq_getElem hk]; exact h _ (List.getElem_mem hk)
section
variable {w0 w : World} {F : HP} {v : Value} {b l : List Int} {r x y : Int}
theorem uJ (H : aB w0 w F) (hT : tZ w0) (hv : iT w0 F .u8 v b) (hb : Io b) (hL : b.length ≤ 17179869184) : fE prog 51 #[v] w fun v' w' => aB w0 w' (gZ 21 .i32 v' (qV b) • F) := by
 refine gy func51 ntmps51 ?_
 dsimp only [aY, Nat.reduceAdd]
 refine ay (ah (aV rfl (aA (aj (ay (ah (aV rfl (aA (aj (ay (bf ?_)))))))))))
 refine fH [] (fun (⟨v2, u, n⟩ : Value × Value × Nat) => [(0, v2), (3, u)]) (fun (⟨v2, u, n⟩ : Value × Value × Nat) W => ∃ b2 l2, (iT w0 F .u8 v2 b2 ∧ Io b2 ∧ l2 ++ qV b2 = qV b ∧ l2.length + b2.length ≤ b.length ∧ b2.length = n) ∧ aB w0 W (gZ 21 .i32 u l2 • F)) (fun (⟨v2, u, n⟩ : Value × Value × Nat) => n) ((v, .slice none 0 0, b.length)) (Sub.nil _) (Sub.cons rfl (Sub.cons rfl (Sub.nil _))) ⟨b, [], ⟨hv, hb, rfl, by simp, rfl⟩, (H).ig none⟩ ?_
 rintro ⟨v2, u, n⟩ w1 ⟨b2, l2, ⟨hv2, hb2, hr2, hl2, hn2⟩, HL⟩
 dsimp only [List.cons_append, List.nil_append]
 refine ay (ay (ah (aN rfl (aU (gG (hv2 _ (HL.right)) underlying104 rfl) (aU (fZ rfl rfl) (aA (aj (aP rfl (fun h1 => ?_) (fun h1 => ?_)))))))))
 ·(try simp only [aI] at h1)
  refine aT (aj (bf (ay ?_)))
  have hne : b2 ≠ [] := by rintro rfl; simp at *
  have hd := yO hne
  refine ah (aN rfl (dw rfl func106 (Le HL hT (fun W HW => hv2 _ (HW.right)) (by assumption) (by assumption)) ?_))
  rintro _ w2 ⟨rfl, H2⟩
  refine aN rfl (yA rfl rfl (yA rfl rfl (aV rfl (aV rfl (aA (aj (ay (ah (aN rfl (aN rfl (gq (gB (k := .i32) (l := [_]) H2 underlying23 sizeOf21 zeroValue21 rfl rfl rfl (by decide)) ?_)))))))))))
  rintro l3 w3 H3
  refine gq (dG H3.f2 ((H3).aO) underlying23 (show (prog.info? 21).map (fun i => (i.zero, i.size, i.bytes)) = some (some (.int .i32 0), 1, 4) by kernel_rfl) rfl rfl (by first | omega | (simp only [List.length_append, List.length_nil, List.length_cons]; omega) | (simp; omega)) (by first | omega | (simp only [List.length_append, List.length_nil, List.length_cons]; omega) | (simp; omega))) ?_
  rintro l4 w4 H4
  try simp only [List.nil_append] at H4
  refine aV rfl (aA (aj (ah (aN rfl (aN rfl (aU (wz (hv2 _ (H4.right.right)) underlying104 sizeOf5 rfl rfl rfl (by omega)) (aV rfl (aA (aH ?_)))))))))
  refine dA (_, _, _) (Sub.cons rfl (Sub.cons rfl (Sub.nil _))) (Sub.nil _) (by (try dsimp only); exact ⟨_, _, ⟨fun W HW => iV.from (hv2 W HW) hd.2.1, OH hb2 _, by rw [← hr2, Az hne, List.append_assoc]; rfl, by rw [List.length_append, List.length_drop]; simp only [List.length_cons, List.length_nil]; omega, rfl⟩, H4.f2.right⟩) ?_
  ·(try dsimp only); rw [List.length_drop]; omega
 ·(try simp only [aI] at h1)
  refine dL (aW (aW (bD (aj (ay (ah (aN rfl (aV rfl (aA (aj (aJ (aQ (.inl rfl) results51 rfl ?_))))))))))))
  obtain rfl : b2 = [] := List.eq_nil_of_length_eq_zero (by omega)
  rw [CZ, List.append_nil] at hr2
  subst hr2
  exact HL
theorem OI (H : aB w0 w F) (hv : iT w0 F .i32 v l) (hl : tu l) (hL : l.length ≤ 17179869184) : fE prog 135 #[v] w fun v' w' => aB w0 w' (gZ 5 .u8 v' (lN l) • F) := by
 refine gy func135 ntmps135 ?_
 dsimp only [aY, Nat.reduceAdd]
 refine ay (ah (aV rfl (aA (aj (ay (ah (aV rfl (aA (aj (ay (ay (ah (aN rfl (aU (gG (hv _ (H)) underlying23 rfl) (aN rfl (aA (aj (bf ?_))))))))))))))))))
 refine fH [(6, _), (7, _)] (fun (⟨k, u⟩ : Nat × Value) => [(8, .int .i64 (k : Int)), (3, u)]) (fun (⟨k, u⟩ : Nat × Value) W => k ≤ l.length ∧ aB w0 W (gZ 5 .u8 u (lN (l.take k)) • F)) (fun (⟨k, u⟩ : Nat × Value) => l.length - k) ((0, .slice none 0 0)) (Sub.cons rfl (Sub.cons rfl (Sub.nil _))) (Sub.cons rfl (Sub.cons rfl (Sub.nil _))) ⟨by omega, (H).ig none⟩ ?_
 rintro ⟨k, u⟩ w1 ⟨hk, HL⟩
 dsimp only [List.cons_append, List.nil_append]
 refine ay (ah (aU (eu rfl rfl) (aA (aj (ay (aP rfl (fun h1 => ?_) (fun h1 => ?_)))))))
 ·(try simp only [aI] at h1)
  refine aT (aj (ay (bf (ay ?_))))
  have hkl : k < l.length := by omega
  have hbb := Ub (l := l) k
  have hrr := V5 hl hkl
  refine ah ?_
  obtain ⟨bv, ov, cv, ev⟩ := iV.lD (hv _ (HL.right)) (by omega)
  cases ev
  refine aU (cZ underlying23 sizeOf21 rfl rfl (by omega)) ?_
  refine aU (fJ (bW underlying21 rfl) rfl (by first | exact iV.pX (hv _ (HL.right)) (by omega) | exact iV.Es (hv _ (HL.right)) (by omega) | exact iV.CY (hv _ (HL.right)) (by omega))) ?_
  refine aV rfl (aA (aj (ay (ay (ah (aN rfl (dw rfl func169 (Vj) ?_)))))))
  rintro _ _ ⟨rfl, rfl⟩
  refine aU (kJ rfl) (aA (aj (aP rfl (fun h2 => ?_) (fun h2 => ?_))))
  ·(try simp only [aI] at h2)
   have henc : Lib.encodeRuneZ (l.getD k 0) = Lib.encodeRuneZ 65533 := by rw [OG (by simpa using h2)]; rfl
   refine ah (aV rfl (aA (aj (ah (aN rfl (aN rfl (dw rfl func170 (zu HL (by omega) (by omega)) ?_)))))))
   rintro u3 w3 H3
   refine aV rfl (aA (aH (aj (ah (aU (dS rfl rfl (by omega)) (aN rfl (aA ?_)))))))
   refine dA ((k + 1, u3)) ?_ ?_ ?_ ?_
   ·exact (Sub.cons rfl (Sub.cons rfl (Sub.nil _)))
   ·exact (Sub.cons rfl (Sub.cons rfl (Sub.nil _)))
   ·(try dsimp only)
    first | done | exact ⟨by omega, by rw [Bc l k hkl]; first | exact H3 | (rw [henc]; exact H3)⟩
   ·(try dsimp only); omega
  ·(try simp only [aI] at h2)
   refine aT (aj (ah (aN rfl (aN rfl (dw rfl func170 (zu HL (by omega) (by omega)) ?_)))))
   rintro u4 w4 H4
   refine aV rfl (aA (aH (aj (ah (aU (dS rfl rfl (by omega)) (aN rfl (aA ?_)))))))
   refine dA ((k + 1, u4)) ?_ ?_ ?_ ?_
   ·exact (Sub.cons rfl (Sub.cons rfl (Sub.nil _)))
   ·exact (Sub.cons rfl (Sub.cons rfl (Sub.nil _)))
   ·(try dsimp only)
    first | done | exact ⟨by omega, by rw [Bc l k hkl]; first | exact H4 | (rw [henc]; exact H4)⟩
   ·(try dsimp only); omega
 ·(try simp only [aI] at h1)
  refine dL (aW (aW (bD (aj (ay (ah (aN rfl (aV rfl (aA (aj (aJ (aQ (.inl rfl) results135 rfl ?_))))))))))))
  obtain rfl : k = l.length := by omega
  rw [List.take_length] at HL
  exact HL
end
end Go.Proofs.YtddekefihgejoaaGreatDoor
end
section
namespace Go.Proofs.YtddekefihgejoaaGreatDoor
open Go.RowKit
def FC (l : List Int) : ByteArray := l.foldl (fun s n => s.push (UInt8.ofNat n.toNat)) .empty
theorem Lh (l : List Int) : FC l = ⟨(l.map fun n => UInt8.ofNat n.toNat).toArray⟩ := by
  have key : ∀ (l : List Int) (s : ByteArray), l.foldl (fun s n => s.push (UInt8.ofNat n.toNat)) s = ⟨s.data ++ (l.map fun n => UInt8.ofNat n.toNat).toArray⟩ := by
    intro l
    induction l with
    | nil => intro s; simp
    | cons x r ih =>
      intro s
      rw [List.foldl_cons, ih]
      simp [ByteArray.push]
  unfold FC
  rw [key]
  simp
def oH (s : ByteArray) : List Int := s.data.toList.map fun b => (b.toNat : Int)
theorem jS (s : ByteArray) : (oH s).length = s.size := by unfold oH; simp
theorem uK (s : ByteArray) : ∀ x ∈ oH s, 0 ≤ x ∧ x < 256 := by
  intro x hx
  obtain ⟨b, _, rfl⟩ := List.mem_map.1 hx
  have := b.toNat_lt
  omega
section
variable {P : Program} {L : List (Nat × Value)} {w0 w : World} {F : HP} {ty : TypeId} {x : Operand}
theorem Jy {src dst e : TypeId} {v : Value} {l : List Int} (hs : P.underlying src = some (.slice e)) (hd : P.underlying dst = some .string) (he : P.underlying e = some (.int .u8)) (hx : ev L x = some v) (hr : iV w .u8 v l) :
    Val P L (.convert src dst x) ty w (.string (FC l)) w := fun ρ hρ _ _ _ _ => by
  obtain ⟨a, c, rfl, _, _, hc⟩ := Rd.cells (P := P) hr
  have loop : ∀ (f : Value → ByteArray → Sem (ForInStep ByteArray)), (∀ n s, f (.int .u8 n) s = pure (ForInStep.yield (s.push (UInt8.ofNat n.toNat)))) → ∀ (l : List Int) (s : ByteArray), (forIn (m := Sem) (l.map (Value.int .u8)).toArray s f).run P w = .ok (l.foldl (fun s n => s.push (UInt8.ofNat n.toNat)) s) w := by
    intro f hf l
    induction l with
    | nil => intro s; rfl
    | cons x l ih => intro s; simp [hf] at ih ⊢; try exact ih _
  have h1 : (Conv.bytesToString (.slice a l.length c)).run P w = .ok (.string (FC l)) w := by
    unfold Conv.bytesToString
    cases a with
    | none =>
      have : l = [] := by
        cases l with
        | nil => rfl
        | cons x l =>
          obtain ⟨_, _, e, _, _, hh⟩ := hr.open
          cases e
          obtain ⟨_, _, e, _⟩ := hh (by simp)
          cases e
      subst this; rfl
    | some a =>
      have h2 : (loadCells a l.length).run P w = .ok (l.map (Value.int .u8)).toArray w := by simpa [Builtin.firstCells] using hc
      simp only [Sem.run_bind, h2, Result.andThen_ok]
      rw [loop]
      · rfl
      · intro n s; rfl
  simp [execOp, hρ _ _ hx, convert, run_underlying hs, run_underlying hd, run_underlying he, h1]
theorem o9 {src dst e : TypeId} {s : ByteArray} (H : aB w0 w F) (hs : P.underlying src = some .string) (hd : P.underlying dst = some (.slice e)) (he : P.underlying e = some (.int .u8)) (hx : ev L x = some (.string s)) (h63 : (s.size : Int) ≤ 4611686018427387904) :
    rH P L (.convert src dst x) ty w fun v w' => aB w0 w' (pz .u8 v (oH s) • F) := by
  have hge := grownCap_ge w s.size 0 e
  refine ni (v := .slice (some ⟨w.heap.size, 0, none⟩) s.size (grownCap w s.size 0 e)) (w' := w.drew.alloc (.cells (bytesRow s (grownCap w s.size 0 e)) e ((bytesRow s (grownCap w s.size 0 e)).size, (bytesRow s (grownCap w s.size 0 e)).size + 1))) ?_ ?_
  · intro ρ hρ d pos lC g
    simp only [execOp, hρ _ _ hx, Sem.run_bind, run_bytes_of_string w src dst e s hs hd he]
    rfl
  · refine (H.drew.alloc _).freeze.Ep (qR (fun I hI => ?_) F)
    refine ⟨some ⟨w.heap.size, 0, none⟩, grownCap w s.size 0 e, by rw [jS], by rw [jS]; exact hge, wu w _ _ _ (by omega), fun _ => ⟨w.heap.size, 0, _, _, _, rfl, hI, fun j hj => ?_⟩⟩
    rw [jS] at hj
    unfold bytesRow oH
    rw [Nat.zero_add, Array.getElem?_append_left (by simpa using hj)]
    simp [List.getD_eq_getElem?_getD]
    have hj2 : j < s.data.size := hj
    exact ⟨s.data[j], Array.getElem?_eq_getElem hj2, by rw [Array.getElem?_eq_getElem hj2]; rfl⟩
end
end Go.Proofs.YtddekefihgejoaaGreatDoor
end
section
namespace Go.Proofs.YtddekefihgejoaaGreatDoor
open Go.RowKit
open _root_.Go.Proofs.Tryz
def yu (hl : List kZ) (tx : Int → Option ByteArray) (place : Int) (L : List Int) : ByteArray := if qV (oH (eY hl tx place)) = L then eY hl tx place else FC (lN L)
theorem lZ {hl : List kZ} {tx : Int → Option ByteArray} (h1 : ∀ x ∈ hl, Qz x) (h2 : ∀ k t, tx k = some t → t.size ≤ 16384) (k : Int) : (eY hl tx k).size ≤ 16384 := by
  unfold eY
  cases h : tx k with
  | some t => exact h2 k t h
  | none =>
    show (rZ hl k).size ≤ 16384
    unfold rZ KJ
    split
    · rename_i hk
      rw [List.getD_eq_getElem?_getD, List.getElem?_eq_getElem (by omega)]
      exact (h1 _ (List.getElem_mem _)).1
    · simp
section
variable {w0 w : World} {F : HP} {e pb pw pt ph : Nat} {L : List Int} {V4 mk place base most : Int} {tx : Int → Option ByteArray} {hl : List kZ}
theorem Bd {x1 x3 x4 x5 x6 x7 x8 x9 x10 x12 zn x14 x15 x16 x17 x18 x19 x20 x21 yE x23 x24 x25 yF x27 x28 x29 x30 x31 x32 AU : Value} (H : aB w0 w (bY e (.cells (.pointer (some ⟨pb, 0, none⟩) :: x1 :: .pointer (some ⟨pw, 0, none⟩) :: x3 :: x4 :: x5 :: x6 :: x7 :: x8 :: x9 :: x10 :: .pointer (some ⟨ph, 0, none⟩) :: x12 :: zn :: x14 :: x15 :: x16 :: x17 :: x18 :: x19 :: x20 :: x21 :: yE :: x23 :: x24 :: x25 :: yF :: x27 :: x28 :: x29 :: x30 :: x31 :: x32 :: AU :: []).toArray 69 (0, 0)) • dI pb L V4 mk • bY pw (.cells #[.int .i64 place, .map (some pt)] 125 (0, 0)) • dQ kW pt (kX tx) • dh ph hl base most • F))
  (hT : tZ w0) (hR : tu L) (hsz : (eY hl tx place).size ≤ 16384) :
  fE prog 85 #[.pointer (some ⟨e, 0, none⟩)] w fun v' w' => v' = .string (yu hl tx place L) ∧ aB w0 w' (bY e (.cells (.pointer (some ⟨pb, 0, none⟩) :: x1 :: .pointer (some ⟨pw, 0, none⟩) :: x3 :: x4 :: x5 :: x6 :: x7 :: x8 :: x9 :: x10 :: .pointer (some ⟨ph, 0, none⟩) :: x12 :: zn :: x14 :: x15 :: x16 :: x17 :: x18 :: x19 :: x20 :: x21 :: yE :: x23 :: x24 :: x25 :: yF :: x27 :: x28 :: x29 :: x30 :: x31 :: x32 :: AU :: []).toArray 69 (0, 0)) • dI pb L V4 mk • bY pw (.cells #[.int .i64 place, .map (some pt)] 125 (0, 0)) • dQ kW pt (kX tx) • dh ph hl base most • F) := by
 have hbz : (oH (eY hl tx place)).length ≤ 17179869184 := by rw [jS]; omega
 have hbi : Io (oH (eY hl tx place)) := uK _
 have hLl : L.length ≤ 1024 := by obtain ⟨a, c, xs, f, t, h1, h2, h3, h4, h5, h6, h7, hc1, hc2, hl, H1⟩ := (H.f2).buf; exact h4
 refine gy func85 ntmps85 ?_
 dsimp only [aY, Nat.reduceAdd]
 refine ay (ah (aV rfl (aA (aj (ay (ay (ah (aN rfl (aN rfl (bP rfl (bg 0 underlying69 rfl sizeOf64 rfl (bg 2 underlying64 rfl sizeOf61 rfl (dO underlying61 rfl (H).get.2 rfl (bP rfl (bg 0 underlying125 rfl sizeOf3 rfl (dO underlying3 rfl (H.f3).get.2 rfl (dw rfl func86 (lH H.f5.f5.f5.f4) ?_)))))))))))))))))
 rintro _ w1 ⟨rfl, H1⟩
 refine aV rfl (aA (aj (ay ?_)))
 have OD := H1.drew
 have kG := aB.kp (OD.f5.f5.f5.f5.f5)
 refine vV [7] kG rfl (gQ 0 rfl kG rfl (gQ 3 rfl kG rfl (iQ 4 rfl kG rfl (dR 5 rfl kG 0 underlying69 rfl sizeOf64 rfl (dR 6 rfl kG 0 underlying64 rfl sizeOf59 rfl (gY 7 rfl kG (fun W hW => iH underlying59 rfl ((Kp.h hW)).get.2 rfl) (jk 1 rfl (o9 OD underlying9 underlying104 underlying5 rfl (by omega)) ?_)))))))
 rintro l2 w2 H2
 have y5 := aB.kp (H2.f6.f6.f6.f6.f6.f6)
 refine bT y5 (fun W hW => (Kp.h hW).right.f5.f5.f5.f5.f5) ?_
 refine jk 2 rfl (rP rfl func51 (uJ H2 (by assumption) (fun W HW => (HW).jE) (by assumption) (by omega))) ?_
 rintro u3 w3 H3
 have BF := aB.kp (H3.f7.f7.f7.f7.f7.f7.f7)
 refine bT BF (fun W hW => (Kp.h hW).right.f6.f6.f6.f6.f6.f6) ?_
 refine jk 8 rfl (rP rfl func121 (nJ H3.f7)) ?_
 rintro u4 w4 H4
 have uj := aB.kp (H4.f8.f8.f8.f8.f8.f8.f8.f8)
 refine dN uj (by kernel_rfl) ?_
 refine jk 9 rfl (rP rfl func70 (zK _ _ _ _ _ ((H4.f3).aO) ((H4).aO))) ?_
 rintro _ w5 ⟨rfl, hD5⟩
 have HD5 := H4.Aj hD5
 have uq := aB.kp (HD5.f8.f8.f8.f8.f8.f8.f8.f8)
 refine dN uq (by kernel_rfl) ?_
 refine nT (aj (aP rfl (fun h1 => ?_) (fun h1 => ?_)))
 ·(try simp only [aI] at h1)
  have hq := h1
  refine ay (ah (aN rfl (aV rfl (aA (aj (aJ (aK (aQ (.inl rfl) results85 rfl ?_))))))))
  exact ⟨by unfold yu; rw [if_pos hq], HD5.right.f2.right.f2.right.f5.f5.f5.f4.f5⟩
 ·(try simp only [aI] at h1)
  have hq := h1
  refine aT (aj (ay (ah (aN rfl (bP rfl (bg 0 underlying69 rfl sizeOf64 rfl (bg 0 underlying64 rfl sizeOf59 rfl (dO underlying59 rfl (HD5.f5).get.2 rfl (dw rfl func121 (nJ HD5.f2) ?_)))))))))
  rintro u6 w6 H6
  refine dw rfl func135 (OI H6 (fun W HW => (HW).aO) (by assumption) (by omega)) ?_
  rintro u7 w7 H7
  refine aU (Jy underlying104 underlying9 underlying5 rfl ((H7).aO)) (aV rfl (aA (aj (aJ (aQ (.inl rfl) results85 rfl ?_)))))
  exact ⟨by unfold yu; rw [if_neg hq], H7.right.right.f2.right.f2.right.f2.right.f5.f5.f5.f4.f5⟩
end
end Go.Proofs.YtddekefihgejoaaGreatDoor
end
section
namespace Go.Proofs.YtddekefihgejoaaGreatDoor
open Go.RowKit
open _root_.Go.Proofs.Tryz
namespace bG
variable (s : bG)
def uM : ByteArray := yu s.hl s.c.tx s.c.place s.c.L
def tC (k : Int) : List Int := qV (oH (if k = s.c.place then s.uM else s.stands k))
def lJ (k : Int) : Int := if s.inn then (if k < 0 ∨ s.hl.length < k then 6 else if 1024 < (s.tC k).length then 6 else 0) else 1
def uN (k : Int) : bG :=
  if s.lJ k = 0 then
    let t := s.dB false
    { t with whole := false, c := { t.c with tx := sZ t.c.tx t.c.place (some t.uM), place := k, L := s.tC k, pt := (s.tC k).length, mark := -1, run := false } }
  else s
end bG
theorem FD {s : bG} (h : zY s.hl s.c) (hl : ∀ x ∈ s.hl, Qz x) (hL : s.c.L.length ≤ 1024) : s.uM.size ≤ 16384 := by
  unfold bG.uM yu
  split
  · exact lZ hl h.2.2 _
  · have h1 := FB s.c.L
    have h2 : (FC (lN s.c.L)).size = (lN s.c.L).length := by rw [Lh]; show (((lN s.c.L).map fun n => UInt8.ofNat n.toNat).toArray).size = _; simp
    rw [h2]; omega
theorem Lj (s : bG) (on : Bool) : (s.dB on).hl = s.hl ∧ (s.dB on).c.tx = s.c.tx ∧ (s.dB on).c.place = s.c.place ∧ (s.dB on).c.L = s.c.L := by
  unfold bG.dB; split <;> exact ⟨rfl, rfl, rfl, rfl⟩
theorem Rz (tx : Int → Option ByteArray) (k : Int) (b : ByteArray) : upd (kX tx) k (.string b) = kX (sZ tx k (some b)) := by
  funext x
  unfold upd kX sZ
  split <;> rfl
theorem aB.RD {w0 w : World} {F : HP} {b : Nat} {U : Int → List (List fB)} (H : aB w0 w (pF b U • F)) (k : Int) : eH (U k) [] ≤ 16384 := by
  obtain ⟨D, P, h1, h2, H1⟩ := H.QJ
  by_cases hk : k ∈ D
  · have H2 := H1.QK h1 h2 hk
    obtain ⟨gv, nv, gs, now, k1, _⟩ := H2.pU
    exact k1.2.1
  · rw [h2 k hk]; decide
theorem OJ (s : bG) (on : Bool) : (s.dB on).put = [] := by
  unfold bG.dB; split
  · assumption
  · rfl
theorem Uc {t : bG} {k : Int} {l : List Int} (h : jV t) (hp : t.put = []) (hk : ¬ (k < 0 ∨ (t.hl.length : Int) < k)) (hh : t.uM.size ≤ 16384) (hu : eH (t.c.un k) [] ≤ 16384) :
    jV { t with whole := false, c := { t.c with tx := sZ t.c.tx t.c.place (some t.uM), place := k, L := l, pt := l.length, mark := -1, run := false } } := by
  obtain ⟨h1, h2, h3, h4, h5, h6⟩ := h
  refine ⟨⟨by show 0 ≤ k; omega, by show k ≤ t.hl.length; omega, fun x b hb => ?_⟩, h2, h3, h4, ?_, h6⟩
  · by_cases hx : x = t.c.place
    · subst hx
      have : some t.uM = some b := (iC t.c.tx t.c.place (some t.uM)).symm.trans hb
      cases this; exact hh
    · exact h1.2.2 x b ((rD t.c.tx (some t.uM) hx).symm.trans hb)
  · show eH (t.c.un k) t.put ≤ 16384
    rw [hp]; exact hu
section
variable {w0 w : World} {F : HP} {e : Nat} {s : bG} {k : Int}
theorem Bf (H : aB w0 w (dK e s • F)) (hT : tZ w0) (hR : tu s.c.L) : fE prog 38 #[.pointer (some ⟨e, 0, none⟩), .int .i64 k] w fun v w' => v = .int .i64 (s.lJ k) ∧ aB w0 w' (dK e (s.uN k) • F) := by
 refine gy func38 ntmps38 ?_
 dsimp only [aY, Nat.reduceAdd]
 refine ay (ah (aV rfl (aA (aj (ay (ay (ah (aN rfl (dw rfl func81 (kM H) ?_)))))))))
 rintro _ _ ⟨rfl, rfl⟩
 refine aV rfl (aA (aj (ay (ah (aN rfl (aU (dZ rfl rfl) (aA (aj (aP rfl (fun h1 => ?_) (fun h1 => ?_))))))))))
 ·(try simp only [aI] at h1)
  obtain ⟨hin, hpe⟩ := BX h1
  refine ay (ah (aN rfl (aV rfl (aA (aj (aJ (aK (aQ (.inl rfl) results38 rfl ?_))))))))
  rw [hpe]
  exact ⟨by simp [bG.lJ, bG.uN, hin], by rw [show s.uN k = s from by simp [bG.lJ, bG.uN, hin]]; exact H⟩
 ·(try simp only [aI] at h1)
  have hin := zk h1
  refine aT (aj (ay (ay ?_)))
  obtain ⟨qj, ql, qo, qp, qx, qy, qA, qB, nY, mD, mF, mG, mJ, mM, mO, mP, mQ, mV, mW, mX, dF, bK, gV, dY⟩ := (H).DR
  obtain ⟨hv9, hk9, _⟩ := (dY.f7).hist
  have hLl : s.c.L.length ≤ 1024 := by obtain ⟨a, c, xs, f, t, h1, h2, h3, h4, h5, h6, h7, hc1, hc2, hl, H1⟩ := (dY.f2).buf; exact h4
  have hcl := hk9.1
  refine ah (aN rfl (aU (eu rfl rfl) (jy rfl (fun h2 => ?_) (fun h2 => ?_))))
  ·(try simp only [aI] at h2)
   have hbad : k < 0 ∨ (s.hl.length : Int) < k := .inl h2
   refine bF (bF (bF (bF (bF (bF (bF (jw rfl rfl (aA (aj (xg (ay (ah (aV rfl (aA (aj (aJ (aK (aQ (.inl rfl) results38 rfl ?_))))))))))))))))))
   have hE : s.lJ k = 6 := by unfold bG.lJ; rw [if_pos hin, if_pos (by omega)]
   have KC := dY.f11.f11.f11.f11.f11.f11.f11.f11.f11.f11.f11
   have KD := aB.dW (s := s) dF bK KC
   exact ⟨by rw [hE], by unfold bG.uN; rw [if_neg (by rw [hE]; decide)]; exact KD⟩
  ·(try simp only [aI] at h2)
   refine bC (aN rfl (bC (aN rfl (bC (bP rfl (bC (bg 11 underlying69 rfl sizeOf65 rfl (bC (dO underlying65 rfl (dY).get.2 rfl (bC (dw rfl func84 (jq dY.f7) ?_)))))))))))
   rintro _ w6 ⟨rfl, H6⟩
   refine bC (aU (fZ rfl rfl) (iU rfl rfl (aA (aj (aP rfl (fun h3 => ?_) (fun h3 => ?_))))))
   ·(try simp only [aI] at h3)
    have abz := h3
    refine ay (ah (aV rfl (aA (aj (aJ (aK (aQ (.inl rfl) results38 rfl ?_)))))))
    have hE : s.lJ k = 6 := by unfold bG.lJ; rw [if_pos hin, if_pos (by omega)]
    have Yd := H6.f11.f11.f11.f11.f5.f11.f11.f11.f11.f11.f11
    have WH := aB.dW (s := s) dF bK Yd
    exact ⟨by rw [hE], by unfold bG.uN; rw [if_neg (by rw [hE]; decide)]; exact WH⟩
   ·(try simp only [aI] at h3)
    have hgood : ¬ (k < 0 ∨ (s.hl.length : Int) < k) := by have h9 := h3; omega
    refine aT (aj (ay ?_))
    have hsz : (eY s.hl s.c.tx s.c.place).size ≤ 16384 := lZ hk9.2.2.2.2.2 dF.1.2.2 _
    have hsk : (eY s.hl s.c.tx k).size ≤ 16384 := lZ hk9.2.2.2.2.2 dF.1.2.2 _
    have Om : s.uM.size ≤ 16384 := FD dF.1 hk9.2.2.2.2.2 hLl
    unfold bG.uM at Om
    have hb1 := uK (yu s.hl s.c.tx s.c.place s.c.L)
    have hb2 := uK (eY s.hl s.c.tx k)
    have hb3 := jS (yu s.hl s.c.tx s.c.place s.c.L)
    have hb4 := jS (eY s.hl s.c.tx k)
    refine ah (aN rfl (dw rfl func85 (Bd H6.f6.f6.f5.f5 (by assumption) (by assumption) (by assumption)) ?_))
    rintro _ w10 ⟨rfl, qH⟩
    refine gq (o9 qH underlying9 underlying104 underlying5 rfl (by omega)) ?_
    rintro XI Hr uQ
    refine dw rfl func51 (uJ uQ (by assumption) (fun W HW => (HW).jE) (by assumption) (by omega)) ?_
    rintro Wn w12 uf
    refine aV rfl (aA (aj ?_))
    refine rO [(0, _), (1, _)] (fun (u : Value) => [(6, u)]) (fun (u : Value) W => aB w0 W (gZ 21 .i32 u (s.tC k) • dK e s • F)) (Sub.cons rfl (Sub.cons rfl (Sub.nil _))) ?_ ?_
    ·rintro u NY HJ
     dsimp only [List.cons_append, List.nil_append]
     refine ay (ay (ah (aN rfl (aU (gG ((HJ).aO) underlying23 rfl) (aU (fZ rfl rfl) (aA (aj (aP rfl (fun h4 => ?_) (fun h4 => ?_)))))))))
     ·(try simp only [aI] at h4)
      have hE : s.lJ k = 6 := by have h9 := h4; unfold bG.lJ; rw [if_pos hin, if_neg hgood, if_pos (by omega)]
      refine ay (ah (aV rfl (aA (aj (aJ (aK (aQ (.inl rfl) results38 rfl ?_)))))))
      exact ⟨by rw [hE], by unfold bG.uN; rw [if_neg (by rw [hE]; decide)]; exact HJ.right⟩
     ·(try simp only [aI] at h4)
      have hE : s.lJ k = 0 := by have h9 := h4; unfold bG.lJ; rw [if_pos hin, if_neg hgood, if_neg (by omega)]
      have hshort : (s.tC k).length ≤ 1024 := by have h9 := h4; omega
      refine aT (aj (ay (ah (aN rfl (dw rfl func83 (jQ HJ.f2) ?_)))))
      rintro _ NZ yB
      obtain ⟨t, ht, HT⟩ : ∃ t, s.dB false = t ∧ aB w0 NZ (dK e t • gZ 21 .i32 u (s.tC k) • F) := ⟨_, rfl, yB⟩
      obtain ⟨Y8, hft, hfp, hfL⟩ := Lj s false
      rw [ht] at Y8 hft hfp hfL
      obtain ⟨qj, ql, qo, qp, qx, qy, qA, qB, nY, mD, mF, mG, mJ, mM, mO, mP, mQ, mV, mW, mX, dF, bK, gV, dY⟩ := (HT).DR
      have hR2 : tu t.c.L := by rw [hfL]; exact hR
      have hsz2 : (eY t.hl t.c.tx t.c.place).size ≤ 16384 := by rw [Y8, hft, hfp]; exact lZ hk9.2.2.2.2.2 (hft ▸ dF.1.2.2) _
      refine aA (aj (ay ?_))
      have RF := dY.drew
      have jf := aB.kp (RF.f7.right.f11.f11.f11.f11.f11.f11.f11.f11.f11.f11.f11)
      refine vV [4, 7, 12, 15] jf rfl (gQ 0 rfl jf rfl (iQ 1 rfl jf rfl (dR 2 rfl jf 0 underlying69 rfl sizeOf64 rfl (dR 3 rfl jf 2 underlying64 rfl sizeOf61 rfl (gY 4 rfl jf (fun W hW => iH underlying61 rfl ((Kp.h hW)).get.2 rfl) (iQ 5 rfl jf rfl (dR 6 rfl jf 1 underlying125 rfl sizeOf123 rfl (gY 7 rfl jf (fun W hW => iH underlying123 rfl ((Kp.h hW).f4).get.2 rfl) (gQ 8 rfl jf rfl (iQ 9 rfl jf rfl (dR 10 rfl jf 0 underlying69 rfl sizeOf64 rfl (dR 11 rfl jf 2 underlying64 rfl sizeOf61 rfl (gY 12 rfl jf (fun W hW => iH underlying61 rfl ((Kp.h hW)).get.2 rfl) (iQ 13 rfl jf rfl (dR 14 rfl jf 0 underlying125 rfl sizeOf3 rfl (gY 15 rfl jf (fun W hW => iH underlying3 rfl ((Kp.h hW).f4).get.2 rfl) (gQ 16 rfl jf rfl (jk 17 rfl (rP rfl func85 (Bd RF.f7.f6.f6.f5.f5 (by assumption) (by assumption) (by assumption))) ?_))))))))))))))))))
      rintro _ w16 ⟨rfl, qY⟩
      have y8 := aB.kp (qY.f12.f12.f12.f12.f12.f12.f12.f12.f12.f12.f12.f12)
      refine bT y8 (fun W hW => (Kp.h hW).f5.right.f11.f11.f11.f11.f11.f11.f10.f10.f11.f11.f11) ?_
      refine dJ 18 rfl (by kernel_rfl) (sD qY.f4 underlying123 underlying3 rfl rfl rfl) ?_
      rintro _ Tz yC
      have xE := aB.kp (yC.f12.f12.f12.f12.f12.f12.f12.f12.f12.f12.f12.f12)
      refine dN xE (by kernel_rfl) ?_
      refine nT (aj (ay (ah (aN rfl (bP rfl (bg 0 underlying69 rfl sizeOf64 rfl (bg 2 underlying64 rfl sizeOf61 rfl (dO underlying61 rfl (yC.f2).get.2 rfl (aN rfl (bP rfl (bg 0 underlying125 rfl sizeOf3 rfl (aG (aS 0 (l' := [_, _]) yC.f4 sizeOf3 rfl rfl (by first | rfl | assumption) rfl rfl) ?_))))))))))))
      rintro _ Sv zB
      refine aA (aj (ay (ah (aN rfl (aN rfl (dw rfl func87 (AA zB (fun W HW => (HW.f12).aO) hshort) ?_))))))
      rintro _ PZ ⟨p19, rfl, uY⟩
      refine aN rfl (yA rfl rfl (yA rfl rfl (bP rfl (bg 0 underlying69 rfl sizeOf64 rfl (bg 0 underlying64 rfl sizeOf59 rfl (aG (aS 0 (l' := [_, _, _, _, _, _, _, _, _, _, _, _, _, _, _, _, _, _, _, _, _, _, _, _, _, _, _, _, _, _, _, _, _, _]) uY.f4 sizeOf59 rfl rfl (by first | rfl | assumption) rfl rfl) ?_))))))
      rintro _ Sz yD
      refine aA (aj (ay (ah (aN rfl (aN rfl (bP rfl (bg 32 underlying69 rfl sizeOf4 rfl (aG (aS 32 (l' := [_, _, _, _, _, _, _, _, _, _, _, _, _, _, _, _, _, _, _, _, _, _, _, _, _, _, _, _, _, _, _, _, _, _]) yD sizeOf4 rfl rfl (by first | rfl | assumption) rfl rfl) ?_))))))))
      rintro _ TA oV
      refine bP rfl (bg 0 underlying69 rfl sizeOf64 rfl (bg 10 underlying64 rfl sizeOf4 rfl (aG (aS 10 (l' := [_, _, _, _, _, _, _, _, _, _, _, _, _, _, _, _, _, _, _, _, _, _, _, _, _, _, _, _, _, _, _, _, _, _]) oV sizeOf4 rfl rfl (by first | rfl | assumption) rfl rfl) ?_)))
      rintro _ Xf JX
      refine aA (aj (ay (ah (aV rfl (aA (aj (aJ (aQ (.inl rfl) results38 rfl ?_))))))))
      have hut := (JX.f8).RD k
      have aaM : t.uM.size ≤ 16384 := FD dF.1 (Y8 ▸ hk9.2.2.2.2.2) (by rw [hfL]; exact hLl)
      have HQ := JX.f5.right.f12.right.f11.f11.f11.f11.f9.f11.f10.f10.f11.f11.f11
      rw [Rz] at HQ
      exact ⟨by rw [hE], by unfold bG.uN; rw [if_pos hE]; dsimp only; rw [ht]; exact aB.dW (s := { t with whole := false, c := { t.c with tx := sZ t.c.tx t.c.place (some t.uM), place := k, L := s.tC k, pt := (s.tC k).length, mark := -1, run := false } }) (Uc dF (ht ▸ OJ s false) (Y8 ▸ hgood) aaM hut) bK HQ⟩
    ·skip
     refine ay (ah (aN rfl (aN rfl (bP rfl (bg 0 underlying69 rfl sizeOf64 rfl (bg 2 underlying64 rfl sizeOf61 rfl (dO underlying61 rfl (uf.f3).get.2 rfl (bP rfl (bg 0 underlying125 rfl sizeOf3 rfl (dO underlying3 rfl (uf.f5).get.2 rfl (aU (dZ rfl rfl) (aA (aj (aP rfl (fun h5 => ?_) (fun h5 => ?_)))))))))))))))
     ·(try simp only [aI] at h5)
      have hkp : ¬ k = s.c.place := h5
      refine ah (aN rfl (aN rfl (dw rfl func86 (lH uf.f7.f7.f7.f6) ?_)))
      rintro _ O7 ⟨rfl, rV⟩
      refine gq (o9 rV underlying9 underlying104 underlying5 rfl (by omega)) ?_
      rintro l24 YN SA
      refine dw rfl func51 (uJ SA (by assumption) (fun W HW => (HW).jE) (by assumption) (by omega)) ?_
      rintro u25 Xg IC
      refine aV rfl ?_
      have aaN := IC.f15.f15.f15.f15.f10.f15.f11.f11.f15.f15.f13
      have YA := aB.dW (s := s) dF bK aaN
      refine aA ?_
      refine bZ (_) (Sub.cons rfl (Sub.nil _)) (Sub.cons rfl (Sub.cons rfl (Sub.nil _))) (by (try dsimp only); exact by unfold bG.tC; first | (rw [if_pos hkp]; exact YA.f3.right.f3.right.f3.right.f2) | (rw [if_neg hkp]; exact YA.f3.right.f3.right.f3.right.f2))
     ·(try simp only [aI] at h5)
      have hkp : k = s.c.place := by have h9 := h5; simpa using h9
      have aaO := uf.f13.f13.f13.f13.f11.f13.f12.f12.f13.f13.f13
      have YB := aB.dW (s := s) dF bK aaO
      refine aT ?_
      refine bZ (_) (Sub.cons rfl (Sub.nil _)) (Sub.cons rfl (Sub.cons rfl (Sub.nil _))) (by (try dsimp only); exact by unfold bG.tC; first | (rw [if_pos hkp]; exact YB.f3.right.f2) | (rw [if_neg hkp]; exact YB.f3.right.f2))
end
end Go.Proofs.YtddekefihgejoaaGreatDoor
end
