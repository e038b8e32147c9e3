import Derived.Test.YtddekefihgejoaaGreatDoorZ2
import Derived.Test.YtddekefihgejoaaGreatDoorZ4
import Derived.Test.YtddekefihgejoaaGreatDoorZ16
import Derived.Laws.IdiomStrings
import Derived.Test.YtddekefihgejoaaGreatDoorZ13
import Derived.Test.YtddekefihgejoaaGreatDoorZ12
set_option linter.unusedSimpArgs false
set_option linter.unusedVariables false
/- Texts of mine, joined, their names in short: Utf2 Utf3 Utf4 Utf5 StrB EdG EdGo. -/
section
namespace Go.Proofs.YtddekefihgejoaaGreatDoor
open Go.RowKit
open _root_.Go.Proofs.Tryz
theorem PS {r : Int} (h : iK r = false) : Lib.encodeRuneZ r = [239, 191, 189] := Lib.encodeRuneZ_bad (by
  unfold iK at h
  simp only [decide_eq_false_iff_not] at h
  omega)
section
variable {w0 w : World} {F : HP} {v : Value} {b l : List Int} {r x y : Int}
theorem MQ (H : aA w0 w F) (hT : tu w0) (hv : gV w0 F .u8 v b) (hb : Jh b) (hne : b ≠ []) : fQ prog 106 #[v] w fun v' w' => v' = .tuple #[.int .i32 (oJ b).1, .int .i64 ((oJ b).2 : Nat)] ∧ aA w0 w' F := by
 have hl := List.length_pos_iff.2 hne
 have y0 := DV hb 0
 refine iw func106 ntmps106 ?_
 dsimp only [aZ, Nat.reduceAdd]
 refine ay (ah (aW rfl (aW rfl (aB (aj (ay (ay (ah (aP rfl (aU (gK (hv _ (H)) underlying104 rfl) (aP rfl (aB (aj (aY ?_))))))))))))))
 obtain ⟨av, cv, ev, -⟩ := iI.open (hv _ (H))
 subst ev
 refine eP [(0, _), (6, _), (7, _)] (fun (k : Nat) => [(8, .int .i64 (k : Int))]) (fun (k : Nat) W => k = 0 ∧ aA w0 W F) (fun (k : Nat) => 0) (0) (Sub.cons rfl (Sub.cons rfl (Sub.cons rfl (Sub.nil _)))) (Sub.cons rfl (Sub.nil _)) ⟨rfl, H⟩ ?_
 rintro k w2 ⟨rfl, HL⟩
 dsimp only [List.cons_append, List.nil_append]
 refine ay (ah (aU (dV rfl rfl) (aB (aj (ay (aO rfl (fun h1 => ?_) (fun h => by exfalso; (try simp only [aG] at h); first | contradiction | omega | (simp at h <;> omega))))))))
 (try simp only [aG] at h1)
 refine aQ (aj (ay (aY (ay (ah ?_)))))
 obtain ⟨bv, ov, rfl⟩ := iI.pos (hv _ (HL)) (by omega)
 refine aU (bV underlying104 sizeOf5 rfl rfl (by omega)) ?_
 refine aU (dB (bG underlying5 rfl) rfl (by first | exact iI.oV (hv _ (HL)) (by omega) | exact iI.CQ (hv _ (HL)) (by omega) | exact iI.BH (hv _ (HL)) (by omega))) ?_
 simp only [Int.natCast_zero]
 refine aW rfl (aB (aj (ay (ay (ah (aP rfl (aU (dV rfl rfl) (aB (aj (aO rfl (fun h2 => ?_) (fun h2 => ?_)))))))))))
 ·(try simp only [aG] at h2)
  refine ay (ah (aP rfl ?_))
  refine aU (iJ rfl (by rw [underlying5]; rfl) underlying21 (jk (by omega))) ?_
  refine aW rfl (aW rfl (aB (aj (aN (aK (aX (aK (aK (aX (aK (gQ (.inl rfl) results106 rfl rfl ?_)))))))))))
  exact ⟨by rw [DW hne (by omega)]; rfl, HL⟩
 ·(try simp only [aG] at h2)
  refine aQ (aj (dK ?_))
  refine kG (by decide) ?_
  refine aV (aV (bD (aj (ay (ah (aP rfl (dD rfl func152 (QB HL hT (fun W HW => hv _ (HW)) (by assumption) (by assumption)) ?_)))))))
  rintro _ w3 ⟨rfl, H3⟩
  refine aP rfl (wQ rfl rfl (wQ rfl rfl (aW rfl (aW rfl (aB (aj (aN (gQ (.inl rfl) results106 rfl rfl ?_))))))))
  exact ⟨rfl, H3⟩
theorem Kz (H : aA w0 w (gW 5 .u8 v l • F)) (hl : l.length ≤ 70368744177664) (hr : ¬ (0 ≤ r ∧ r ≤ 127)) (hw : -2147483648 ≤ r ∧ r < 2147483648) :
  fQ prog 180 #[v, .int .i32 r] w fun v' w' => aA w0 w' (gW 5 .u8 v' (l ++ Lib.encodeRuneZ r) • F) := by
 refine iw func180 ntmps180 ?_
 dsimp only [aZ, Nat.reduceAdd]
 refine ay (ah (aW rfl (aB (aj (ay (ah (aP rfl ?_)))))))
 refine aU (DU rfl (by rw [underlying21]; rfl) underlying253) ?_
 refine aW rfl (aB (aj (aY (ay (ah (aP rfl (aU (wO rfl rfl) (aW rfl (aB (aj (aO rfl (fun h1 => ?_) (fun h1 => ?_))))))))))))
 ·(try simp only [aG] at h1)
  refine ay (ah (aP rfl (aP rfl (aU (sD 6 64 (by decide) (by decide) rfl rfl) ?_))))
  refine aU (fA rfl (by rw [underlying21]; rfl) underlying5) ?_
  refine aU (iV 6 64 (by decide) rfl rfl (by omega)) (aP rfl ?_)
  refine aU (fA rfl (by rw [underlying21]; rfl) underlying5) ?_
  refine aU (fC 6 63 64 (by decide) (by decide) (by decide) rfl rfl (by omega)) (aU (iV 7 128 (by decide) rfl rfl (by omega)) (gB (fV (k := .u8) (l := [_, _]) H underlying104 sizeOf5 zeroValue5 rfl rfl rfl (by decide)) ?_))
  rintro l1 w1 H1
  refine gB (dM H1.f2 ((H1).aJ) underlying104 (show (prog.info? 5).map (fun i => (i.zero, i.size, i.bytes)) = some (some (.int .u8 0), 1, 1) by kernel_rfl) rfl rfl (by first | omega | (simp only [List.length_append, List.length_nil, List.length_cons]; omega) | (simp; omega)) (by first | omega | (simp only [List.length_append, List.length_nil, List.length_cons]; omega) | (simp; omega))) ?_
  rintro l2 w2 H2
  try simp only [List.nil_append] at H2
  refine aW rfl (aB (aj (aN (aX (aT (.inl rfl) results180 rfl ?_)))))
  rw [Lib.encodeRuneZ_two (by omega) (by omega)]
  have HX := H2.f2.right
  rw [show r / 64 % 256 = r / 64 from by omega, show r % 256 % 64 = r % 64 from by omega] at HX
  exact HX
 ·(try simp only [aG] at h1)
  refine ay (ay (ah (aP rfl (aU (dV rfl rfl) (aW rfl (aB (aj (aO rfl (fun h2 => ?_) (fun h2 => ?_)))))))))
  ·(try simp only [aG] at h2)
   refine aQ (aj (aO rfl (fun h3 => ?_) (fun h3 => ?_)))
   ·(try simp only [aG] at h3)
    refine ay (ah (aP rfl (aP rfl (aU (sD 12 4096 (by decide) (by decide) rfl rfl) ?_))))
    refine aU (fA rfl (by rw [underlying21]; rfl) underlying5) ?_
    refine aU (iV 5 32 (by decide) rfl rfl (by omega)) (aP rfl (aU (sD 6 64 (by decide) (by decide) rfl rfl) ?_))
    refine aU (fA rfl (by rw [underlying21]; rfl) underlying5) ?_
    refine aU (fC 6 63 64 (by decide) (by decide) (by decide) rfl rfl (by omega)) (aU (iV 7 128 (by decide) rfl rfl (by omega)) (aP rfl ?_))
    refine aU (fA rfl (by rw [underlying21]; rfl) underlying5) ?_
    refine aU (fC 6 63 64 (by decide) (by decide) (by decide) rfl rfl (by omega)) (aU (iV 7 128 (by decide) rfl rfl (by omega)) (gB (fV (k := .u8) (l := [_, _, _]) H underlying104 sizeOf5 zeroValue5 rfl rfl rfl (by decide)) ?_))
    rintro l3 w3 H3
    refine gB (dM H3.f2 ((H3).aJ) underlying104 (show (prog.info? 5).map (fun i => (i.zero, i.size, i.bytes)) = some (some (.int .u8 0), 1, 1) by kernel_rfl) rfl rfl (by first | omega | (simp only [List.length_append, List.length_nil, List.length_cons]; omega) | (simp; omega)) (by first | omega | (simp only [List.length_append, List.length_nil, List.length_cons]; omega) | (simp; omega))) ?_
    rintro l4 w4 H4
    try simp only [List.nil_append] at H4
    refine aW rfl (aB (aj (aN (aX (aT (.inl rfl) results180 rfl ?_)))))
    rw [Lib.encodeRuneZ_three (by omega)]
    have HX := H4.f2.right
    rw [show r / 4096 % 256 = r / 4096 from by omega, show r / 64 % 256 % 64 = r / 64 % 64 from by omega, show r % 256 % 64 = r % 64 from by omega] at HX
    exact HX
   ·(try simp only [aG] at h3)
    refine ay (ah (aP rfl (aU (gU rfl rfl) (jL rfl (fun h4 => ?_) (fun h4 => ?_)))))
    ·(try simp only [aG] at h4)
     refine bn (aP rfl (bn (aU (wO rfl rfl) (jP rfl rfl (aW rfl (aB (aj (aO rfl (fun h5 => ?_) (fun h5 => ?_)))))))))
     ·(try simp only [aG] at h5)
      refine ay (ah (aP rfl (aP rfl (aU (sD 18 262144 (by decide) (by decide) rfl rfl) ?_))))
      refine aU (fA rfl (by rw [underlying21]; rfl) underlying5) ?_
      refine aU (iV 4 16 (by decide) rfl rfl (by omega)) (aP rfl (aU (sD 12 4096 (by decide) (by decide) rfl rfl) ?_))
      refine aU (fA rfl (by rw [underlying21]; rfl) underlying5) ?_
      refine aU (fC 6 63 64 (by decide) (by decide) (by decide) rfl rfl (by omega)) (aU (iV 7 128 (by decide) rfl rfl (by omega)) (aP rfl (aU (sD 6 64 (by decide) (by decide) rfl rfl) ?_)))
      refine aU (fA rfl (by rw [underlying21]; rfl) underlying5) ?_
      refine aU (fC 6 63 64 (by decide) (by decide) (by decide) rfl rfl (by omega)) (aU (iV 7 128 (by decide) rfl rfl (by omega)) (aP rfl ?_))
      refine aU (fA rfl (by rw [underlying21]; rfl) underlying5) ?_
      refine aU (fC 6 63 64 (by decide) (by decide) (by decide) rfl rfl (by omega)) (aU (iV 7 128 (by decide) rfl rfl (by omega)) (gB (fV (k := .u8) (l := [_, _, _, _]) H underlying104 sizeOf5 zeroValue5 rfl rfl rfl (by decide)) ?_))
      rintro l5 w5 H5
      refine gB (dM H5.f2 ((H5).aJ) underlying104 (show (prog.info? 5).map (fun i => (i.zero, i.size, i.bytes)) = some (some (.int .u8 0), 1, 1) by kernel_rfl) rfl rfl (by first | omega | (simp only [List.length_append, List.length_nil, List.length_cons]; omega) | (simp; omega)) (by first | omega | (simp only [List.length_append, List.length_nil, List.length_cons]; omega) | (simp; omega))) ?_
      rintro l6 w6 H6
      try simp only [List.nil_append] at H6
      refine aW rfl (aB (aj (aN (aX (aT (.inl rfl) results180 rfl ?_)))))
      rw [Lib.encodeRuneZ_four (by omega) (by omega)]
      have HX := H6.f2.right
      rw [show r / 262144 % 256 = r / 262144 from by omega, show r / 4096 % 256 % 64 = r / 4096 % 64 from by omega, show r / 64 % 256 % 64 = r / 64 % 64 from by omega, show r % 256 % 64 = r % 64 from by omega] at HX
      exact HX
     ·(try simp only [aG] at h5)
      refine ay (ah (aP rfl (gB (fV (k := .u8) (l := [239, 191, 189]) H underlying104 sizeOf5 zeroValue5 rfl rfl rfl (by decide)) ?_)))
      rintro l7 w7 H7
      refine gB (dM H7.f2 ((H7).aJ) underlying104 (show (prog.info? 5).map (fun i => (i.zero, i.size, i.bytes)) = some (some (.int .u8 0), 1, 1) by kernel_rfl) rfl rfl (by first | omega | (simp only [List.length_append, List.length_nil, List.length_cons]; omega) | (simp; omega)) (by first | omega | (simp only [List.length_append, List.length_nil, List.length_cons]; omega) | (simp; omega))) ?_
      rintro l8 w8 H8
      try simp only [List.nil_append] at H8
      refine aW rfl (aB (aj (aN (aX (aT (.inl rfl) results180 rfl ?_)))))
      rw [Lib.encodeRuneZ_bad (by omega)]
      exact H8.f2.right
    ·(try simp only [aG] at h4)
     refine bK (bK (jd rfl rfl (aW rfl (aB (aj (pW (ay (ah (aP rfl (gB (fV (k := .u8) (l := [239, 191, 189]) H underlying104 sizeOf5 zeroValue5 rfl rfl rfl (by decide)) ?_))))))))))
     rintro l9 w9 H9
     refine gB (dM H9.f2 ((H9).aJ) underlying104 (show (prog.info? 5).map (fun i => (i.zero, i.size, i.bytes)) = some (some (.int .u8 0), 1, 1) by kernel_rfl) rfl rfl (by first | omega | (simp only [List.length_append, List.length_nil, List.length_cons]; omega) | (simp; omega)) (by first | omega | (simp only [List.length_append, List.length_nil, List.length_cons]; omega) | (simp; omega))) ?_
     rintro l10 w10 qK
     try simp only [List.nil_append] at qK
     refine aW rfl (aB (aj (aN (aX (aT (.inl rfl) results180 rfl ?_)))))
     rw [Lib.encodeRuneZ_bad (by omega)]
     exact qK.f2.right
  ·(try simp only [aG] at h2)
   refine ah (aP rfl (aU (dV rfl rfl) (jL rfl (fun h6 => ?_) (fun h6 => ?_))))
   ·(try simp only [aG] at h6)
    refine bn (aP rfl (bn (aU (wO rfl rfl) (jP rfl rfl (aW rfl (aB (aj (aO rfl (fun h7 => ?_) (fun h7 => ?_)))))))))
    ·(try simp only [aG] at h7)
     refine ay (ah (aP rfl (aP rfl (aU (sD 12 4096 (by decide) (by decide) rfl rfl) ?_))))
     refine aU (fA rfl (by rw [underlying21]; rfl) underlying5) ?_
     refine aU (iV 5 32 (by decide) rfl rfl (by omega)) (aP rfl (aU (sD 6 64 (by decide) (by decide) rfl rfl) ?_))
     refine aU (fA rfl (by rw [underlying21]; rfl) underlying5) ?_
     refine aU (fC 6 63 64 (by decide) (by decide) (by decide) rfl rfl (by omega)) (aU (iV 7 128 (by decide) rfl rfl (by omega)) (aP rfl ?_))
     refine aU (fA rfl (by rw [underlying21]; rfl) underlying5) ?_
     refine aU (fC 6 63 64 (by decide) (by decide) (by decide) rfl rfl (by omega)) (aU (iV 7 128 (by decide) rfl rfl (by omega)) (gB (fV (k := .u8) (l := [_, _, _]) H underlying104 sizeOf5 zeroValue5 rfl rfl rfl (by decide)) ?_))
     rintro YA IV vK
     refine gB (dM vK.f2 ((vK).aJ) underlying104 (show (prog.info? 5).map (fun i => (i.zero, i.size, i.bytes)) = some (some (.int .u8 0), 1, 1) by kernel_rfl) rfl rfl (by first | omega | (simp only [List.length_append, List.length_nil, List.length_cons]; omega) | (simp; omega)) (by first | omega | (simp only [List.length_append, List.length_nil, List.length_cons]; omega) | (simp; omega))) ?_
     rintro l12 w12 vM
     try simp only [List.nil_append] at vM
     refine aW rfl (aB (aj (aN (aX (aT (.inl rfl) results180 rfl ?_)))))
     rw [Lib.encodeRuneZ_three (by omega)]
     have HX := vM.f2.right
     rw [show r / 4096 % 256 = r / 4096 from by omega, show r / 64 % 256 % 64 = r / 64 % 64 from by omega, show r % 256 % 64 = r % 64 from by omega] at HX
     exact HX
    ·(try simp only [aG] at h7)
     refine ay (ah (aP rfl (aU (gU rfl rfl) (jL rfl (fun h8 => ?_) (fun h8 => ?_)))))
     ·(try simp only [aG] at h8)
      refine bn (aP rfl (bn (aU (wO rfl rfl) (jP rfl rfl (aW rfl (aB (aj (aO rfl (fun h9 => ?_) (fun h9 => ?_)))))))))
      ·(try simp only [aG] at h9)
       refine ay (ah (aP rfl (aP rfl (aU (sD 18 262144 (by decide) (by decide) rfl rfl) ?_))))
       refine aU (fA rfl (by rw [underlying21]; rfl) underlying5) ?_
       refine aU (iV 4 16 (by decide) rfl rfl (by omega)) (aP rfl (aU (sD 12 4096 (by decide) (by decide) rfl rfl) ?_))
       refine aU (fA rfl (by rw [underlying21]; rfl) underlying5) ?_
       refine aU (fC 6 63 64 (by decide) (by decide) (by decide) rfl rfl (by omega)) (aU (iV 7 128 (by decide) rfl rfl (by omega)) (aP rfl (aU (sD 6 64 (by decide) (by decide) rfl rfl) ?_)))
       refine aU (fA rfl (by rw [underlying21]; rfl) underlying5) ?_
       refine aU (fC 6 63 64 (by decide) (by decide) (by decide) rfl rfl (by omega)) (aU (iV 7 128 (by decide) rfl rfl (by omega)) (aP rfl ?_))
       refine aU (fA rfl (by rw [underlying21]; rfl) underlying5) ?_
       refine aU (fC 6 63 64 (by decide) (by decide) (by decide) rfl rfl (by omega)) (aU (iV 7 128 (by decide) rfl rfl (by omega)) (gB (fV (k := .u8) (l := [_, _, _, _]) H underlying104 sizeOf5 zeroValue5 rfl rfl rfl (by decide)) ?_))
       rintro l13 OY xq
       refine gB (dM xq.f2 ((xq).aJ) underlying104 (show (prog.info? 5).map (fun i => (i.zero, i.size, i.bytes)) = some (some (.int .u8 0), 1, 1) by kernel_rfl) rfl rfl (by first | omega | (simp only [List.length_append, List.length_nil, List.length_cons]; omega) | (simp; omega)) (by first | omega | (simp only [List.length_append, List.length_nil, List.length_cons]; omega) | (simp; omega))) ?_
       rintro l14 OZ yR
       try simp only [List.nil_append] at yR
       refine aW rfl (aB (aj (aN (aX (aT (.inl rfl) results180 rfl ?_)))))
       rw [Lib.encodeRuneZ_four (by omega) (by omega)]
       have HX := yR.f2.right
       rw [show r / 262144 % 256 = r / 262144 from by omega, show r / 4096 % 256 % 64 = r / 4096 % 64 from by omega, show r / 64 % 256 % 64 = r / 64 % 64 from by omega, show r % 256 % 64 = r % 64 from by omega] at HX
       exact HX
      ·(try simp only [aG] at h9)
       refine ay (ah (aP rfl (gB (fV (k := .u8) (l := [239, 191, 189]) H underlying104 sizeOf5 zeroValue5 rfl rfl rfl (by decide)) ?_)))
       rintro l15 QV xu
       refine gB (dM xu.f2 ((xu).aJ) underlying104 (show (prog.info? 5).map (fun i => (i.zero, i.size, i.bytes)) = some (some (.int .u8 0), 1, 1) by kernel_rfl) rfl rfl (by first | omega | (simp only [List.length_append, List.length_nil, List.length_cons]; omega) | (simp; omega)) (by first | omega | (simp only [List.length_append, List.length_nil, List.length_cons]; omega) | (simp; omega))) ?_
       rintro ZK w16 sW
       try simp only [List.nil_append] at sW
       refine aW rfl (aB (aj (aN (aX (aT (.inl rfl) results180 rfl ?_)))))
       rw [Lib.encodeRuneZ_bad (by omega)]
       exact sW.f2.right
     ·(try simp only [aG] at h8)
      refine bK (bK (jd rfl rfl (aW rfl (aB (aj (pW (ay (ah (aP rfl (gB (fV (k := .u8) (l := [239, 191, 189]) H underlying104 sizeOf5 zeroValue5 rfl rfl rfl (by decide)) ?_))))))))))
      rintro l17 UA zf
      refine gB (dM zf.f2 ((zf).aJ) underlying104 (show (prog.info? 5).map (fun i => (i.zero, i.size, i.bytes)) = some (some (.int .u8 0), 1, 1) by kernel_rfl) rfl rfl (by first | omega | (simp only [List.length_append, List.length_nil, List.length_cons]; omega) | (simp; omega)) (by first | omega | (simp only [List.length_append, List.length_nil, List.length_cons]; omega) | (simp; omega))) ?_
      rintro l18 TR Au
      try simp only [List.nil_append] at Au
      refine aW rfl (aB (aj (aN (aX (aT (.inl rfl) results180 rfl ?_)))))
      rw [Lib.encodeRuneZ_bad (by omega)]
      exact Au.f2.right
   ·(try simp only [aG] at h6)
    refine bK (bK (jd rfl rfl (aW rfl (aB (aj (pW (ay (ah (aP rfl (aU (gU rfl rfl) (jL rfl (fun h10 => ?_) (fun h10 => ?_))))))))))))
    ·(try simp only [aG] at h10)
     refine bn (aP rfl (bn (aU (wO rfl rfl) (jP rfl rfl (aW rfl (aB (aj (aO rfl (fun h11 => ?_) (fun h11 => ?_)))))))))
     ·(try simp only [aG] at h11)
      refine ay (ah (aP rfl (aP rfl (aU (sD 18 262144 (by decide) (by decide) rfl rfl) ?_))))
      refine aU (fA rfl (by rw [underlying21]; rfl) underlying5) ?_
      refine aU (iV 4 16 (by decide) rfl rfl (by omega)) (aP rfl (aU (sD 12 4096 (by decide) (by decide) rfl rfl) ?_))
      refine aU (fA rfl (by rw [underlying21]; rfl) underlying5) ?_
      refine aU (fC 6 63 64 (by decide) (by decide) (by decide) rfl rfl (by omega)) (aU (iV 7 128 (by decide) rfl rfl (by omega)) (aP rfl (aU (sD 6 64 (by decide) (by decide) rfl rfl) ?_)))
      refine aU (fA rfl (by rw [underlying21]; rfl) underlying5) ?_
      refine aU (fC 6 63 64 (by decide) (by decide) (by decide) rfl rfl (by omega)) (aU (iV 7 128 (by decide) rfl rfl (by omega)) (aP rfl ?_))
      refine aU (fA rfl (by rw [underlying21]; rfl) underlying5) ?_
      refine aU (fC 6 63 64 (by decide) (by decide) (by decide) rfl rfl (by omega)) (aU (iV 7 128 (by decide) rfl rfl (by omega)) (gB (fV (k := .u8) (l := [_, _, _, _]) H underlying104 sizeOf5 zeroValue5 rfl rfl rfl (by decide)) ?_))
      rintro l19 TS xX
      refine gB (dM xX.f2 ((xX).aJ) underlying104 (show (prog.info? 5).map (fun i => (i.zero, i.size, i.bytes)) = some (some (.int .u8 0), 1, 1) by kernel_rfl) rfl rfl (by first | omega | (simp only [List.length_append, List.length_nil, List.length_cons]; omega) | (simp; omega)) (by first | omega | (simp only [List.length_append, List.length_nil, List.length_cons]; omega) | (simp; omega))) ?_
      rintro YJ QW zh
      try simp only [List.nil_append] at zh
      refine aW rfl (aB (aj (aN (aX (aT (.inl rfl) results180 rfl ?_)))))
      rw [Lib.encodeRuneZ_four (by omega) (by omega)]
      have HX := zh.f2.right
      rw [show r / 262144 % 256 = r / 262144 from by omega, show r / 4096 % 256 % 64 = r / 4096 % 64 from by omega, show r / 64 % 256 % 64 = r / 64 % 64 from by omega, show r % 256 % 64 = r % 64 from by omega] at HX
      exact HX
     ·(try simp only [aG] at h11)
      refine ay (ah (aP rfl (gB (fV (k := .u8) (l := [239, 191, 189]) H underlying104 sizeOf5 zeroValue5 rfl rfl rfl (by decide)) ?_)))
      rintro l21 TT oW
      refine gB (dM oW.f2 ((oW).aJ) underlying104 (show (prog.info? 5).map (fun i => (i.zero, i.size, i.bytes)) = some (some (.int .u8 0), 1, 1) by kernel_rfl) rfl rfl (by first | omega | (simp only [List.length_append, List.length_nil, List.length_cons]; omega) | (simp; omega)) (by first | omega | (simp only [List.length_append, List.length_nil, List.length_cons]; omega) | (simp; omega))) ?_
      rintro l22 XC IW
      try simp only [List.nil_append] at IW
      refine aW rfl (aB (aj (aN (aX (aT (.inl rfl) results180 rfl ?_)))))
      rw [Lib.encodeRuneZ_bad (by omega)]
      exact IW.f2.right
    ·(try simp only [aG] at h10)
     refine bK (bK (jd rfl rfl (aW rfl (aB (aj (pW (ay (ah (aP rfl (gB (fV (k := .u8) (l := [239, 191, 189]) H underlying104 sizeOf5 zeroValue5 rfl rfl rfl (by decide)) ?_))))))))))
     rintro l23 Qh vN
     refine gB (dM vN.f2 ((vN).aJ) underlying104 (show (prog.info? 5).map (fun i => (i.zero, i.size, i.bytes)) = some (some (.int .u8 0), 1, 1) by kernel_rfl) rfl rfl (by first | omega | (simp only [List.length_append, List.length_nil, List.length_cons]; omega) | (simp; omega)) (by first | omega | (simp only [List.length_append, List.length_nil, List.length_cons]; omega) | (simp; omega))) ?_
     rintro l24 Yb Qi
     try simp only [List.nil_append] at Qi
     refine aW rfl (aB (aj (aN (aX (aT (.inl rfl) results180 rfl ?_)))))
     rw [Lib.encodeRuneZ_bad (by omega)]
     exact Qi.f2.right
end
end Go.Proofs.YtddekefihgejoaaGreatDoor
end
section
namespace Go.Proofs.YtddekefihgejoaaGreatDoor
open Go.RowKit
open _root_.Go.Proofs.Tryz
section
variable {w0 w : World} {F : HP} {v : Value} {b l : List Int} {r x y : Int}
theorem Ae (H : aA w0 w (gW 5 .u8 v l • F)) (hl : l.length ≤ 70368744177664) (hw : -2147483648 ≤ r ∧ r < 2147483648) :
  fQ prog 170 #[v, .int .i32 r] w fun v' w' => aA w0 w' (gW 5 .u8 v' (l ++ Lib.encodeRuneZ r) • F) := by
 refine iw func170 ntmps170 ?_
 dsimp only [aZ, Nat.reduceAdd]
 refine ay (ah (aW rfl (aB (aj (ay (ay (ah (aP rfl ?_))))))))
 refine aU (DU rfl (by rw [underlying21]; rfl) underlying253) ?_
 refine aU (wO rfl rfl) (aB (aj (aO rfl (fun h1 => ?_) (fun h1 => ?_))))
 ·(try simp only [aG] at h1)
  refine ay (ah (aP rfl (aP rfl ?_)))
  refine aU (fA rfl (by rw [underlying21]; rfl) underlying5) ?_
  refine gB (fV (k := .u8) (l := [_]) H underlying104 sizeOf5 zeroValue5 rfl rfl rfl (by decide)) ?_
  rintro l1 w1 H1
  refine gB (dM H1.f2 ((H1).aJ) underlying104 (show (prog.info? 5).map (fun i => (i.zero, i.size, i.bytes)) = some (some (.int .u8 0), 1, 1) by kernel_rfl) rfl rfl (by first | omega | (simp only [List.length_append, List.length_nil, List.length_cons]; omega) | (simp; omega)) (by first | omega | (simp only [List.length_append, List.length_nil, List.length_cons]; omega) | (simp; omega))) ?_
  rintro l2 w2 H2
  try simp only [List.nil_append] at H2
  refine aW rfl (aB (aj (aN (aK (aT (.inl rfl) results170 rfl ?_)))))
  rw [Lib.encodeRuneZ_one (by omega) (by omega)]
  have HX := H2.f2.right
  rw [show r % 256 = r from by omega] at HX
  exact HX
 ·(try simp only [aG] at h1)
  refine aQ (aj (ay (ah (aP rfl (aP rfl (dD rfl func180 (Kz H (by omega) (by omega) hw) ?_))))))
  rintro u3 w3 H3
  refine aW rfl (aB (aj (aN (aT (.inl rfl) results170 rfl ?_))))
  exact H3
end
end Go.Proofs.YtddekefihgejoaaGreatDoor
end
section
namespace Go.Proofs.YtddekefihgejoaaGreatDoor
open Go.RowKit
section
variable {w0 w : World} {F : HP} {v : Value} {b l : List Int} {r x y : Int}
end
end Go.Proofs.YtddekefihgejoaaGreatDoor
end
section
namespace Go.Proofs.YtddekefihgejoaaGreatDoor
open Go.RowKit
open _root_.Go.Proofs.Tryz
theorem PU {b : List Int} (h : Jh b) (n : Nat) : Jh (b.drop n) := fun x hx => h x (List.mem_of_mem_drop hx)
theorem Ce (l : List Int) (k : Nat) (h : k < l.length) : mJ (l.take (k + 1)) = mJ (l.take k) ++ Lib.encodeRuneZ (l.getD k 0) := by
  unfold mJ
  rw [List.take_succ_eq_append_getElem h, List.flatMap_append, List.getD_eq_getElem?_getD, List.getElem?_eq_getElem h]
  simp
theorem Gw (l : List Int) : (mJ l).length ≤ 4 * l.length := by
  induction l with
  | nil => simp [mJ]
  | cons x r ih =>
    have h1 : mJ (x :: r) = Lib.encodeRuneZ x ++ mJ r := by simp [mJ]
    have := (Lib.encodeRuneZ_length x).2
    rw [h1, List.length_append, List.length_cons]
    omega
theorem UZ {l : List Int} (k : Nat) : (mJ (l.take k)).length ≤ 4 * l.length := by
  have := Gw (l.take k)
  rw [List.length_take] at this
  omega
def sV (l : List Int) : Prop := ∀ x ∈ l, -2147483648 ≤ x ∧ x < 2147483648
theorem Xh {l : List Int} (h : sV l) {k : Nat} (hk : k < l.length) : -2147483648 ≤ l.getD k 0 ∧ l.getD k 0 < 2147483648 := by
  rw [List.getD_eq_getElem?_getD, List.getElem?_eq_getElem hk]; exact h _ (List.getElem_mem hk)
section
variable {w0 w : World} {F : HP} {v : Value} {b l : List Int} {r x y : Int}
theorem vw (H : aA w0 w F) (hT : tu w0) (hv : gV w0 F .u8 v b) (hb : Jh b) (hL : b.length ≤ 17179869184) : fQ prog 51 #[v] w fun v' w' => aA w0 w' (gW 21 .i32 v' (su b) • F) := by
 refine iw func51 ntmps51 ?_
 dsimp only [aZ, Nat.reduceAdd]
 refine ay (ah (aW rfl (aB (aj (ay (ah (aW rfl (aB (aj (ay (aY ?_)))))))))))
 refine eP [] (fun (⟨v2, u, n⟩ : Value × Value × Nat) => [(0, v2), (3, u)]) (fun (⟨v2, u, n⟩ : Value × Value × Nat) W => ∃ b2 l2, (gV w0 F .u8 v2 b2 ∧ Jh b2 ∧ l2 ++ su b2 = su b ∧ l2.length + b2.length ≤ b.length ∧ b2.length = n) ∧ aA w0 W (gW 21 .i32 u l2 • F)) (fun (⟨v2, u, n⟩ : Value × Value × Nat) => n) ((v, .slice none 0 0, b.length)) (Sub.nil _) (Sub.cons rfl (Sub.cons rfl (Sub.nil _))) ⟨b, [], ⟨hv, hb, rfl, by simp, rfl⟩, (H).iH none⟩ ?_
 rintro ⟨v2, u, n⟩ w1 ⟨b2, l2, ⟨hv2, hb2, hr2, hl2, hn2⟩, HL⟩
 dsimp only [List.cons_append, List.nil_append]
 refine ay (ay (ah (aP rfl (aU (gK (hv2 _ (HL.right)) underlying104 rfl) (aU (gU rfl rfl) (aB (aj (aO rfl (fun h1 => ?_) (fun h1 => ?_)))))))))
 ·(try simp only [aG] at h1)
  refine aQ (aj (aY (ay ?_)))
  have hne : b2 ≠ [] := by rintro rfl; simp at *
  have hd := zB hne
  refine ah (aP rfl (dD rfl func106 (MQ HL hT (fun W HW => hv2 _ (HW.right)) (by assumption) (by assumption)) ?_))
  rintro _ w2 ⟨rfl, H2⟩
  refine aP rfl (wQ rfl rfl (wQ rfl rfl (aW rfl (aW rfl (aB (aj (ay (ah (aP rfl (aP rfl (gB (fV (k := .i32) (l := [_]) H2 underlying23 sizeOf21 zeroValue21 rfl rfl rfl (by decide)) ?_)))))))))))
  rintro l3 w3 H3
  refine gB (dM H3.f2 ((H3).aJ) underlying23 (show (prog.info? 21).map (fun i => (i.zero, i.size, i.bytes)) = some (some (.int .i32 0), 1, 4) by kernel_rfl) rfl rfl (by first | omega | (simp only [List.length_append, List.length_nil, List.length_cons]; omega) | (simp; omega)) (by first | omega | (simp only [List.length_append, List.length_nil, List.length_cons]; omega) | (simp; omega))) ?_
  rintro l4 w4 H4
  try simp only [List.nil_append] at H4
  refine aW rfl (aB (aj (ah (aP rfl (aP rfl (aU (uH (hv2 _ (H4.right.right)) underlying104 sizeOf5 rfl rfl rfl (by omega)) (aW rfl (aB (aH ?_)))))))))
  refine bZ (_, _, _) (Sub.cons rfl (Sub.cons rfl (Sub.nil _))) (Sub.nil _) (by (try dsimp only); exact ⟨_, _, ⟨fun W HW => iI.from (hv2 W HW) hd.2.1, PU hb2 _, by rw [← hr2, BJ hne, List.append_assoc]; rfl, by rw [List.length_append, List.length_drop]; simp only [List.length_cons, List.length_nil]; omega, rfl⟩, H4.f2.right⟩) ?_
  ·(try dsimp only); rw [List.length_drop]; omega
 ·(try simp only [aG] at h1)
  refine dK (aV (aV (bD (aj (ay (ah (aP rfl (aW rfl (aB (aj (aN (aT (.inl rfl) results51 rfl ?_))))))))))))
  obtain rfl : b2 = [] := List.eq_nil_of_length_eq_zero (by omega)
  rw [DT, List.append_nil] at hr2
  subst hr2
  exact HL
theorem PV (H : aA w0 w F) (hv : gV w0 F .i32 v l) (hl : sV l) (hL : l.length ≤ 17179869184) : fQ prog 135 #[v] w fun v' w' => aA w0 w' (gW 5 .u8 v' (mJ l) • F) := by
 refine iw func135 ntmps135 ?_
 dsimp only [aZ, Nat.reduceAdd]
 refine ay (ah (aW rfl (aB (aj (ay (ah (aW rfl (aB (aj (ay (ay (ah (aP rfl (aU (gK (hv _ (H)) underlying23 rfl) (aP rfl (aB (aj (aY ?_))))))))))))))))))
 refine eP [(6, _), (7, _)] (fun (⟨k, u⟩ : Nat × Value) => [(8, .int .i64 (k : Int)), (3, u)]) (fun (⟨k, u⟩ : Nat × Value) W => k ≤ l.length ∧ aA w0 W (gW 5 .u8 u (mJ (l.take k)) • F)) (fun (⟨k, u⟩ : Nat × Value) => l.length - k) ((0, .slice none 0 0)) (Sub.cons rfl (Sub.cons rfl (Sub.nil _))) (Sub.cons rfl (Sub.cons rfl (Sub.nil _))) ⟨by omega, (H).iH none⟩ ?_
 rintro ⟨k, u⟩ w1 ⟨hk, HL⟩
 dsimp only [List.cons_append, List.nil_append]
 refine ay (ah (aU (dV rfl rfl) (aB (aj (ay (aO rfl (fun h1 => ?_) (fun h1 => ?_)))))))
 ·(try simp only [aG] at h1)
  refine aQ (aj (ay (aY (ay ?_))))
  have hkl : k < l.length := by omega
  have hbb := UZ (l := l) k
  have hrr := Xh hl hkl
  refine ah ?_
  obtain ⟨bv, ov, cv, ev⟩ := iI.kN (hv _ (HL.right)) (by omega)
  cases ev
  refine aU (bV underlying23 sizeOf21 rfl rfl (by omega)) ?_
  refine aU (dB (bG underlying21 rfl) rfl (by first | exact iI.oV (hv _ (HL.right)) (by omega) | exact iI.CQ (hv _ (HL.right)) (by omega) | exact iI.BH (hv _ (HL.right)) (by omega))) ?_
  refine aW rfl (aB (aj (ay (ay (ah (aP rfl (dD rfl func169 (V6) ?_)))))))
  rintro _ _ ⟨rfl, rfl⟩
  refine aU (jT rfl) (aB (aj (aO rfl (fun h2 => ?_) (fun h2 => ?_))))
  ·(try simp only [aG] at h2)
   have henc : Lib.encodeRuneZ (l.getD k 0) = Lib.encodeRuneZ 65533 := by rw [PS (by simpa using h2)]; rfl
   refine ah (aW rfl (aB (aj (ah (aP rfl (aP rfl (dD rfl func170 (Ae HL (by omega) (by omega)) ?_)))))))
   rintro u3 w3 H3
   refine aW rfl (aB (aH (aj (ah (aU (dR rfl rfl (by omega)) (aP rfl (aB ?_)))))))
   refine bZ ((k + 1, u3)) ?_ ?_ ?_ ?_
   ·exact (Sub.cons rfl (Sub.cons rfl (Sub.nil _)))
   ·exact (Sub.cons rfl (Sub.cons rfl (Sub.nil _)))
   ·(try dsimp only)
    first | done | exact ⟨by omega, by rw [Ce l k hkl]; first | exact H3 | (rw [henc]; exact H3)⟩
   ·(try dsimp only); omega
  ·(try simp only [aG] at h2)
   refine aQ (aj (ah (aP rfl (aP rfl (dD rfl func170 (Ae HL (by omega) (by omega)) ?_)))))
   rintro u4 w4 H4
   refine aW rfl (aB (aH (aj (ah (aU (dR rfl rfl (by omega)) (aP rfl (aB ?_)))))))
   refine bZ ((k + 1, u4)) ?_ ?_ ?_ ?_
   ·exact (Sub.cons rfl (Sub.cons rfl (Sub.nil _)))
   ·exact (Sub.cons rfl (Sub.cons rfl (Sub.nil _)))
   ·(try dsimp only)
    first | done | exact ⟨by omega, by rw [Ce l k hkl]; first | exact H4 | (rw [henc]; exact H4)⟩
   ·(try dsimp only); omega
 ·(try simp only [aG] at h1)
  refine dK (aV (aV (bD (aj (ay (ah (aP rfl (aW rfl (aB (aj (aN (aT (.inl rfl) results135 rfl ?_))))))))))))
  obtain rfl : k = l.length := by omega
  rw [List.take_length] at HL
  exact HL
end
end Go.Proofs.YtddekefihgejoaaGreatDoor
end
section
namespace Go.Proofs.YtddekefihgejoaaGreatDoor
open Go.RowKit
def Gx (l : List Int) : ByteArray := l.foldl (fun s n => s.push (UInt8.ofNat n.toNat)) .empty
theorem MR (l : List Int) : Gx l = ⟨(l.map fun n => UInt8.ofNat n.toNat).toArray⟩ := by
  have key : ∀ (l : List Int) (s : ByteArray), l.foldl (fun s n => s.push (UInt8.ofNat n.toNat)) s = ⟨s.data ++ (l.map fun n => UInt8.ofNat n.toNat).toArray⟩ := by
    intro l
    induction l with
    | nil => intro s; simp
    | cons x r ih =>
      intro s
      rw [List.foldl_cons, ih]
      simp [ByteArray.push]
  unfold Gx
  rw [key]
  simp
def pz (s : ByteArray) : List Int := s.data.toList.map fun b => (b.toNat : Int)
theorem jZ (s : ByteArray) : (pz s).length = s.size := by unfold pz; simp
theorem vC (s : ByteArray) : ∀ x ∈ pz s, 0 ≤ x ∧ x < 256 := by
  intro x hx
  obtain ⟨b, _, rfl⟩ := List.mem_map.1 hx
  have := b.toNat_lt
  omega
section
variable {P : Program} {L : List (Nat × Value)} {w0 w : World} {F : HP} {ty : TypeId} {x : Operand}
theorem KC {src dst e : TypeId} {v : Value} {l : List Int} (hs : P.underlying src = some (.slice e)) (hd : P.underlying dst = some .string) (he : P.underlying e = some (.int .u8)) (hx : ev L x = some v) (hr : iI w .u8 v l) :
    Val P L (.convert src dst x) ty w (.string (Gx l)) w := fun ρ hρ _ _ _ _ => by
  obtain ⟨a, c, rfl, _, _, hc⟩ := Rd.cells (P := P) hr
  have loop : ∀ (f : Value → ByteArray → Sem (ForInStep ByteArray)), (∀ n s, f (.int .u8 n) s = pure (ForInStep.yield (s.push (UInt8.ofNat n.toNat)))) → ∀ (l : List Int) (s : ByteArray), (forIn (m := Sem) (l.map (Value.int .u8)).toArray s f).run P w = .ok (l.foldl (fun s n => s.push (UInt8.ofNat n.toNat)) s) w := by
    intro f hf l
    induction l with
    | nil => intro s; rfl
    | cons x l ih => intro s; simp [hf] at ih ⊢; try exact ih _
  have h1 : (Conv.bytesToString (.slice a l.length c)).run P w = .ok (.string (Gx l)) w := by
    unfold Conv.bytesToString
    cases a with
    | none =>
      have : l = [] := by
        cases l with
        | nil => rfl
        | cons x l =>
          obtain ⟨_, _, e, _, _, hh⟩ := hr.open
          cases e
          obtain ⟨_, _, e, _⟩ := hh (by simp)
          cases e
      subst this; rfl
    | some a =>
      have h2 : (loadCells a l.length).run P w = .ok (l.map (Value.int .u8)).toArray w := by simpa [Builtin.firstCells] using hc
      simp only [Sem.run_bind, h2, Result.andThen_ok]
      rw [loop]
      · rfl
      · intro n s; rfl
  simp [execOp, hρ _ _ hx, convert, run_underlying hs, run_underlying hd, run_underlying he, h1]
theorem qx {src dst e : TypeId} {s : ByteArray} (H : aA w0 w F) (hs : P.underlying src = some .string) (hd : P.underlying dst = some (.slice e)) (he : P.underlying e = some (.int .u8)) (hx : ev L x = some (.string s)) (h63 : (s.size : Int) ≤ 4611686018427387904) :
    rU P L (.convert src dst x) ty w fun v w' => aA w0 w' (nY .u8 v (pz s) • F) := by
  have hge := grownCap_ge w s.size 0 e
  refine nR (v := .slice (some ⟨w.heap.size, 0, none⟩) s.size (grownCap w s.size 0 e)) (w' := w.drew.alloc (.cells (bytesRow s (grownCap w s.size 0 e)) e ((bytesRow s (grownCap w s.size 0 e)).size, (bytesRow s (grownCap w s.size 0 e)).size + 1))) ?_ ?_
  · intro ρ hρ d pos lM g
    simp only [execOp, hρ _ _ hx, Sem.run_bind, run_bytes_of_string w src dst e s hs hd he]
    rfl
  · refine (H.drew.alloc _).freeze.Dh (pY (fun I hI => ?_) F)
    refine ⟨some ⟨w.heap.size, 0, none⟩, grownCap w s.size 0 e, by rw [jZ], by rw [jZ]; exact hge, wZ w _ _ _ (by omega), fun _ => ⟨w.heap.size, 0, _, _, _, rfl, hI, fun j hj => ?_⟩⟩
    rw [jZ] at hj
    unfold bytesRow pz
    rw [Nat.zero_add, Array.getElem?_append_left (by simpa using hj)]
    simp [List.getD_eq_getElem?_getD]
    have hj2 : j < s.data.size := hj
    exact ⟨s.data[j], Array.getElem?_eq_getElem hj2, by rw [Array.getElem?_eq_getElem hj2]; rfl⟩
end
end Go.Proofs.YtddekefihgejoaaGreatDoor
end
section
namespace Go.Proofs.YtddekefihgejoaaGreatDoor
open Go.RowKit
open _root_.Go.Proofs.Tryz
def y8 (hl : List lg) (tx : Int → Option ByteArray) (place : Int) (L : List Int) : ByteArray := if su (pz (fE hl tx place)) = L then fE hl tx place else Gx (mJ L)
theorem mX {hl : List lg} {tx : Int → Option ByteArray} (h1 : ∀ x ∈ hl, QK x) (h2 : ∀ k t, tx k = some t → t.size ≤ 16384) (k : Int) : (fE hl tx k).size ≤ 16384 := by
  unfold fE
  cases h : tx k with
  | some t => exact h2 k t h
  | none =>
    show (tK hl k).size ≤ 16384
    unfold tK Mc
    split
    · rename_i hk
      rw [List.getD_eq_getElem?_getD, List.getElem?_eq_getElem (by omega)]
      exact (h1 _ (List.getElem_mem _)).1
    · simp
section
variable {w0 w : World} {F : HP} {e pb pw pt ph : Nat} {L : List Int} {Xg mk place base most : Int} {tx : Int → Option ByteArray} {hl : List lg}
theorem Ci {x1 x3 x4 x5 x6 x7 x8 x9 x10 x12 Aa x14 x15 x16 x17 x18 x19 x20 x21 zi x23 x24 x25 zk x27 x28 x29 x30 x31 x32 BQ : Value} (H : aA w0 w (cO e (.cells (.pointer (some ⟨pb, 0, none⟩) :: x1 :: .pointer (some ⟨pw, 0, none⟩) :: x3 :: x4 :: x5 :: x6 :: x7 :: x8 :: x9 :: x10 :: .pointer (some ⟨ph, 0, none⟩) :: x12 :: Aa :: x14 :: x15 :: x16 :: x17 :: x18 :: x19 :: x20 :: x21 :: zi :: x23 :: x24 :: x25 :: zk :: x27 :: x28 :: x29 :: x30 :: x31 :: x32 :: BQ :: []).toArray 69 (0, 0)) • dQ pb L Xg mk • cO pw (.cells #[.int .i64 place, .map (some pt)] 125 (0, 0)) • dY lI pt (lJ tx) • dn ph hl base most • F))
  (hT : tu w0) (hR : sV L) (hsz : (fE hl tx place).size ≤ 16384) :
  fQ prog 85 #[.pointer (some ⟨e, 0, none⟩)] w fun v' w' => v' = .string (y8 hl tx place L) ∧ aA w0 w' (cO e (.cells (.pointer (some ⟨pb, 0, none⟩) :: x1 :: .pointer (some ⟨pw, 0, none⟩) :: x3 :: x4 :: x5 :: x6 :: x7 :: x8 :: x9 :: x10 :: .pointer (some ⟨ph, 0, none⟩) :: x12 :: Aa :: x14 :: x15 :: x16 :: x17 :: x18 :: x19 :: x20 :: x21 :: zi :: x23 :: x24 :: x25 :: zk :: x27 :: x28 :: x29 :: x30 :: x31 :: x32 :: BQ :: []).toArray 69 (0, 0)) • dQ pb L Xg mk • cO pw (.cells #[.int .i64 place, .map (some pt)] 125 (0, 0)) • dY lI pt (lJ tx) • dn ph hl base most • F) := by
 have hbz : (pz (fE hl tx place)).length ≤ 17179869184 := by rw [jZ]; omega
 have hbi : Jh (pz (fE hl tx place)) := vC _
 have hLl : L.length ≤ 1024 := by obtain ⟨a, c, xs, f, t, h1, h2, h3, h4, h5, h6, h7, hc1, hc2, hl, H1⟩ := (H.f2).buf; exact h4
 refine iw func85 ntmps85 ?_
 dsimp only [aZ, Nat.reduceAdd]
 refine ay (ah (aW rfl (aB (aj (ay (ay (ah (aP rfl (aP rfl (bT rfl (bf 0 underlying69 rfl sizeOf64 rfl (bf 2 underlying64 rfl sizeOf61 rfl (dA underlying61 rfl (H).get.2 rfl (bT rfl (bf 0 underlying125 rfl sizeOf3 rfl (dA underlying3 rfl (H.f3).get.2 rfl (dD rfl func86 (lX H.f5.f5.f5.f4) ?_)))))))))))))))))
 rintro _ w1 ⟨rfl, H1⟩
 refine aW rfl (aB (aj (ay ?_)))
 have PN := H1.drew
 have kS := aA.kp (PN.f5.f5.f5.f5.f5)
 refine vJ [7] kS rfl (fU 0 rfl kS rfl (fU 3 rfl kS rfl (iZ 4 rfl kS rfl (dU 5 rfl kS 0 underlying69 rfl sizeOf64 rfl (dU 6 rfl kS 0 underlying64 rfl sizeOf59 rfl (gG 7 rfl kS (fun W hW => iF underlying59 rfl ((Kp.h hW)).get.2 rfl) (jm 1 rfl (qx PN underlying9 underlying104 underlying5 rfl (by omega)) ?_)))))))
 rintro l2 w2 H2
 have zQ := aA.kp (H2.f6.f6.f6.f6.f6.f6)
 refine bU zQ (fun W hW => (Kp.h hW).right.f5.f5.f5.f5.f5) ?_
 refine jm 2 rfl (rX rfl func51 (vw H2 (by assumption) (fun W HW => (HW).jH) (by assumption) (by omega))) ?_
 rintro u3 w3 H3
 have CS := aA.kp (H3.f7.f7.f7.f7.f7.f7.f7)
 refine bU CS (fun W hW => (Kp.h hW).right.f6.f6.f6.f6.f6.f6) ?_
 refine jm 8 rfl (rX rfl func121 (oq H3.f7)) ?_
 rintro u4 w4 H4
 have uO := aA.kp (H4.f8.f8.f8.f8.f8.f8.f8.f8)
 refine dS uO (by kernel_rfl) ?_
 refine jm 9 rfl (rX rfl func70 (AO _ _ _ _ _ ((H4.f3).aJ) ((H4).aJ))) ?_
 rintro _ w5 ⟨rfl, hD5⟩
 have HD5 := H4.wM hD5
 have sN := aA.kp (HD5.f8.f8.f8.f8.f8.f8.f8.f8)
 refine dS sN (by kernel_rfl) ?_
 refine mD (aj (aO rfl (fun h1 => ?_) (fun h1 => ?_)))
 ·(try simp only [aG] at h1)
  have hq := h1
  refine ay (ah (aP rfl (aW rfl (aB (aj (aN (aK (aT (.inl rfl) results85 rfl ?_))))))))
  exact ⟨by unfold y8; rw [if_pos hq], HD5.right.f2.right.f2.right.f5.f5.f5.f4.f5⟩
 ·(try simp only [aG] at h1)
  have hq := h1
  refine aQ (aj (ay (ah (aP rfl (bT rfl (bf 0 underlying69 rfl sizeOf64 rfl (bf 0 underlying64 rfl sizeOf59 rfl (dA underlying59 rfl (HD5.f5).get.2 rfl (dD rfl func121 (oq HD5.f2) ?_)))))))))
  rintro u6 w6 H6
  refine dD rfl func135 (PV H6 (fun W HW => (HW).aJ) (by assumption) (by omega)) ?_
  rintro u7 w7 H7
  refine aU (KC underlying104 underlying9 underlying5 rfl ((H7).aJ)) (aW rfl (aB (aj (aN (aT (.inl rfl) results85 rfl ?_)))))
  exact ⟨by unfold y8; rw [if_neg hq], H7.right.right.f2.right.f2.right.f2.right.f5.f5.f5.f4.f5⟩
end
end Go.Proofs.YtddekefihgejoaaGreatDoor
end
section
namespace Go.Proofs.YtddekefihgejoaaGreatDoor
open Go.RowKit
open _root_.Go.Proofs.Tryz
namespace bH
variable (s : bH)
def vF : ByteArray := y8 s.hl s.c.tx s.c.place s.c.L
def uw (k : Int) : List Int := su (pz (if k = s.c.place then s.vF else s.stands k))
def lZ (k : Int) : Int := if s.inn then (if k < 0 ∨ s.hl.length < k then 6 else if 1024 < (s.uw k).length then 6 else 0) else 1
def vG (k : Int) : bH :=
  if s.lZ k = 0 then
    let t := s.dF false
    { t with whole := false, c := { t.c with tx := uo t.c.tx t.c.place (some t.vF), place := k, L := s.uw k, pt := (s.uw k).length, mark := -1, run := false } }
  else s
end bH
theorem Gy {s : bH} (h : Bg s.hl s.c) (hl : ∀ x ∈ s.hl, QK x) (hL : s.c.L.length ≤ 1024) : s.vF.size ≤ 16384 := by
  unfold bH.vF y8
  split
  · exact mX hl h.2.2 _
  · have h1 := Gw s.c.L
    have h2 : (Gx (mJ s.c.L)).size = (mJ s.c.L).length := by rw [MR]; show (((mJ s.c.L).map fun n => UInt8.ofNat n.toNat).toArray).size = _; simp
    rw [h2]; omega
theorem MS (s : bH) (on : Bool) : (s.dF on).hl = s.hl ∧ (s.dF on).c.tx = s.c.tx ∧ (s.dF on).c.place = s.c.place ∧ (s.dF on).c.L = s.c.L := by
  unfold bH.dF; split <;> exact ⟨rfl, rfl, rfl, rfl⟩
theorem Ti (tx : Int → Option ByteArray) (k : Int) (b : ByteArray) : upd (lJ tx) k (.string b) = lJ (uo tx k (some b)) := by
  funext x
  unfold upd lJ uo
  split <;> rfl
theorem aA.Tj {w0 w : World} {F : HP} {b : Nat} {U : Int → List (List fG)} (H : aA w0 w (qF b U • F)) (k : Int) : fB (U k) [] ≤ 16384 := by
  obtain ⟨D, P, h1, h2, H1⟩ := H.RP
  by_cases hk : k ∈ D
  · have H2 := H1.RQ h1 h2 hk
    obtain ⟨gv, nv, gs, now, k1, _⟩ := H2.qO
    exact k1.2.1
  · rw [h2 k hk]; decide
theorem PW (s : bH) (on : Bool) : (s.dF on).put = [] := by
  unfold bH.dF; split
  · assumption
  · rfl
theorem U0 {t : bH} {k : Int} {l : List Int} (h : kF t) (hp : t.put = []) (hk : ¬ (k < 0 ∨ (t.hl.length : Int) < k)) (hh : t.vF.size ≤ 16384) (hu : fB (t.c.un k) [] ≤ 16384) :
    kF { t with whole := false, c := { t.c with tx := uo t.c.tx t.c.place (some t.vF), place := k, L := l, pt := l.length, mark := -1, run := false } } := by
  obtain ⟨h1, h2, h3, h4, h5, h6⟩ := h
  refine ⟨⟨by show 0 ≤ k; omega, by show k ≤ t.hl.length; omega, fun x b hb => ?_⟩, h2, h3, h4, ?_, h6⟩
  · by_cases hx : x = t.c.place
    · subst hx
      have : some t.vF = some b := (iL t.c.tx t.c.place (some t.vF)).symm.trans hb
      cases this; exact hh
    · exact h1.2.2 x b ((sO t.c.tx (some t.vF) hx).symm.trans hb)
  · show fB (t.c.un k) t.put ≤ 16384
    rw [hp]; exact hu
section
variable {w0 w : World} {F : HP} {e : Nat} {s : bH} {k : Int}
theorem Cj (H : aA w0 w (dN e s • F)) (hT : tu w0) (hR : sV s.c.L) : fQ prog 38 #[.pointer (some ⟨e, 0, none⟩), .int .i64 k] w fun v w' => v = .int .i64 (s.lZ k) ∧ aA w0 w' (dN e (s.vG k) • F) := by
 refine iw func38 ntmps38 ?_
 dsimp only [aZ, Nat.reduceAdd]
 refine ay (ah (aW rfl (aB (aj (ay (ay (ah (aP rfl (dD rfl func81 (lq H) ?_)))))))))
 rintro _ _ ⟨rfl, rfl⟩
 refine aW rfl (aB (aj (ay (ah (aP rfl (aU (dG rfl rfl) (aB (aj (aO rfl (fun h1 => ?_) (fun h1 => ?_))))))))))
 ·(try simp only [aG] at h1)
  obtain ⟨hin, hpe⟩ := Dt h1
  refine ay (ah (aP rfl (aW rfl (aB (aj (aN (aK (aT (.inl rfl) results38 rfl ?_))))))))
  rw [hpe]
  exact ⟨by simp [bH.lZ, bH.vG, hin], by rw [show s.vG k = s from by simp [bH.lZ, bH.vG, hin]]; exact H⟩
 ·(try simp only [aG] at h1)
  have hin := zZ h1
  refine aQ (aj (ay (ay ?_)))
  obtain ⟨qZ, ru, rC, rD, rE, rF, rG, rH, oL, mZ, ng, ni, ny, nC, nD, nG, nH, nI, nJ, nK, dL, bM, iC, eU⟩ := (H).Ey
  obtain ⟨hv9, hk9, _⟩ := (eU.f7).hist
  have hLl : s.c.L.length ≤ 1024 := by obtain ⟨a, c, xs, f, t, h1, h2, h3, h4, h5, h6, h7, hc1, hc2, hl, H1⟩ := (eU.f2).buf; exact h4
  have hcl := hk9.1
  refine ah (aP rfl (aU (dV rfl rfl) (jL rfl (fun h2 => ?_) (fun h2 => ?_))))
  ·(try simp only [aG] at h2)
   have hbad : k < 0 ∨ (s.hl.length : Int) < k := .inl h2
   refine bK (bK (bK (bK (bK (bK (bK (jP rfl rfl (aB (aj (Dj (ay (ah (aW rfl (aB (aj (aN (aK (aT (.inl rfl) results38 rfl ?_))))))))))))))))))
   have hE : s.lZ k = 6 := by unfold bH.lZ; rw [if_pos hin, if_pos (by omega)]
   have Js := eU.f11.f11.f11.f11.f11.f11.f11.f11.f11.f11.f11
   have Jt := aA.eG (s := s) dL bM Js
   exact ⟨by rw [hE], by unfold bH.vG; rw [if_neg (by rw [hE]; decide)]; exact Jt⟩
  ·(try simp only [aG] at h2)
   refine bn (aP rfl (bn (aP rfl (bn (bT rfl (bn (bf 11 underlying69 rfl sizeOf65 rfl (bn (dA underlying65 rfl (eU).get.2 rfl (bn (dD rfl func84 (jF eU.f7) ?_)))))))))))
   rintro _ w6 ⟨rfl, H6⟩
   refine bn (aU (gU rfl rfl) (jd rfl rfl (aB (aj (aO rfl (fun h3 => ?_) (fun h3 => ?_))))))
   ·(try simp only [aG] at h3)
    have acg := h3
    refine ay (ah (aW rfl (aB (aj (aN (aK (aT (.inl rfl) results38 rfl ?_)))))))
    have hE : s.lZ k = 6 := by unfold bH.lZ; rw [if_pos hin, if_pos (by omega)]
    have W9 := H6.f11.f11.f11.f11.f5.f11.f11.f11.f11.f11.f11
    have VN := aA.eG (s := s) dL bM W9
    exact ⟨by rw [hE], by unfold bH.vG; rw [if_neg (by rw [hE]; decide)]; exact VN⟩
   ·(try simp only [aG] at h3)
    have hgood : ¬ (k < 0 ∨ (s.hl.length : Int) < k) := by have h9 := h3; omega
    refine aQ (aj (ay ?_))
    have hsz : (fE s.hl s.c.tx s.c.place).size ≤ 16384 := mX hk9.2.2.2.2.2 dL.1.2.2 _
    have hsk : (fE s.hl s.c.tx k).size ≤ 16384 := mX hk9.2.2.2.2.2 dL.1.2.2 _
    have Po : s.vF.size ≤ 16384 := Gy dL.1 hk9.2.2.2.2.2 hLl
    unfold bH.vF at Po
    have hb1 := vC (y8 s.hl s.c.tx s.c.place s.c.L)
    have hb2 := vC (fE s.hl s.c.tx k)
    have hb3 := jZ (y8 s.hl s.c.tx s.c.place s.c.L)
    have hb4 := jZ (fE s.hl s.c.tx k)
    refine ah (aP rfl (dD rfl func85 (Ci H6.f6.f6.f5.f5 (by assumption) (by assumption) (by assumption)) ?_))
    rintro _ w10 ⟨rfl, qK⟩
    refine gB (qx qK underlying9 underlying104 underlying5 rfl (by omega)) ?_
    rintro YA IV vK
    refine dD rfl func51 (vw vK (by assumption) (fun W HW => (HW).jH) (by assumption) (by omega)) ?_
    rintro Xv w12 vM
    refine aW rfl (aB (aj ?_))
    refine sZ [(0, _), (1, _)] (fun (u : Value) => [(6, u)]) (fun (u : Value) W => aA w0 W (gW 21 .i32 u (s.uw k) • dN e s • F)) (Sub.cons rfl (Sub.cons rfl (Sub.nil _))) ?_ ?_
    ·rintro u OY HJ
     dsimp only [List.cons_append, List.nil_append]
     refine ay (ay (ah (aP rfl (aU (gK ((HJ).aJ) underlying23 rfl) (aU (gU rfl rfl) (aB (aj (aO rfl (fun h4 => ?_) (fun h4 => ?_)))))))))
     ·(try simp only [aG] at h4)
      have hE : s.lZ k = 6 := by have h9 := h4; unfold bH.lZ; rw [if_pos hin, if_neg hgood, if_pos (by omega)]
      refine ay (ah (aW rfl (aB (aj (aN (aK (aT (.inl rfl) results38 rfl ?_)))))))
      exact ⟨by rw [hE], by unfold bH.vG; rw [if_neg (by rw [hE]; decide)]; exact HJ.right⟩
     ·(try simp only [aG] at h4)
      have hE : s.lZ k = 0 := by have h9 := h4; unfold bH.lZ; rw [if_pos hin, if_neg hgood, if_neg (by omega)]
      have hshort : (s.uw k).length ≤ 1024 := by have h9 := h4; omega
      refine aQ (aj (ay (ah (aP rfl (dD rfl func83 (jX HJ.f2) ?_)))))
      rintro _ OZ yR
      obtain ⟨t, ht, HT⟩ : ∃ t, s.dF false = t ∧ aA w0 OZ (dN e t • gW 21 .i32 u (s.uw k) • F) := ⟨_, rfl, yR⟩
      obtain ⟨Z8, hft, hfp, hfL⟩ := MS s false
      rw [ht] at Z8 hft hfp hfL
      obtain ⟨qZ, ru, rC, rD, rE, rF, rG, rH, oL, mZ, ng, ni, ny, nC, nD, nG, nH, nI, nJ, nK, dL, bM, iC, eU⟩ := (HT).Ey
      have hR2 : sV t.c.L := by rw [hfL]; exact hR
      have hsz2 : (fE t.hl t.c.tx t.c.place).size ≤ 16384 := by rw [Z8, hft, hfp]; exact mX hk9.2.2.2.2.2 (hft ▸ dL.1.2.2) _
      refine aB (aj (ay ?_))
      have Tn := eU.drew
      have jl := aA.kp (Tn.f7.right.f11.f11.f11.f11.f11.f11.f11.f11.f11.f11.f11)
      refine vJ [4, 7, 12, 15] jl rfl (fU 0 rfl jl rfl (iZ 1 rfl jl rfl (dU 2 rfl jl 0 underlying69 rfl sizeOf64 rfl (dU 3 rfl jl 2 underlying64 rfl sizeOf61 rfl (gG 4 rfl jl (fun W hW => iF underlying61 rfl ((Kp.h hW)).get.2 rfl) (iZ 5 rfl jl rfl (dU 6 rfl jl 1 underlying125 rfl sizeOf123 rfl (gG 7 rfl jl (fun W hW => iF underlying123 rfl ((Kp.h hW).f4).get.2 rfl) (fU 8 rfl jl rfl (iZ 9 rfl jl rfl (dU 10 rfl jl 0 underlying69 rfl sizeOf64 rfl (dU 11 rfl jl 2 underlying64 rfl sizeOf61 rfl (gG 12 rfl jl (fun W hW => iF underlying61 rfl ((Kp.h hW)).get.2 rfl) (iZ 13 rfl jl rfl (dU 14 rfl jl 0 underlying125 rfl sizeOf3 rfl (gG 15 rfl jl (fun W hW => iF underlying3 rfl ((Kp.h hW).f4).get.2 rfl) (fU 16 rfl jl rfl (jm 17 rfl (rX rfl func85 (Ci Tn.f7.f6.f6.f5.f5 (by assumption) (by assumption) (by assumption))) ?_))))))))))))))))))
      rintro _ w16 ⟨rfl, sW⟩
      have zT := aA.kp (sW.f12.f12.f12.f12.f12.f12.f12.f12.f12.f12.f12.f12)
      refine bU zT (fun W hW => (Kp.h hW).f5.right.f11.f11.f11.f11.f11.f11.f10.f10.f11.f11.f11) ?_
      refine dO 18 rfl (by kernel_rfl) (tV sW.f4 underlying123 underlying3 rfl rfl rfl) ?_
      rintro _ UA zf
      have yD := aA.kp (zf.f12.f12.f12.f12.f12.f12.f12.f12.f12.f12.f12.f12)
      refine dS yD (by kernel_rfl) ?_
      refine mD (aj (ay (ah (aP rfl (bT rfl (bf 0 underlying69 rfl sizeOf64 rfl (bf 2 underlying64 rfl sizeOf61 rfl (dA underlying61 rfl (zf.f2).get.2 rfl (aP rfl (bT rfl (bf 0 underlying125 rfl sizeOf3 rfl (aI (aS 0 (l' := [_, _]) zf.f4 sizeOf3 rfl rfl (by first | rfl | assumption) rfl rfl) ?_))))))))))))
      rintro _ TR Au
      refine aB (aj (ay (ah (aP rfl (aP rfl (dD rfl func87 (BK Au (fun W HW => (HW.f12).aJ) hshort) ?_))))))
      rintro _ TS ⟨p19, rfl, xX⟩
      refine aP rfl (wQ rfl rfl (wQ rfl rfl (bT rfl (bf 0 underlying69 rfl sizeOf64 rfl (bf 0 underlying64 rfl sizeOf59 rfl (aI (aS 0 (l' := [_, _, _, _, _, _, _, _, _, _, _, _, _, _, _, _, _, _, _, _, _, _, _, _, _, _, _, _, _, _, _, _, _, _]) xX.f4 sizeOf59 rfl rfl (by first | rfl | assumption) rfl rfl) ?_))))))
      rintro _ QW zh
      refine aB (aj (ay (ah (aP rfl (aP rfl (bT rfl (bf 32 underlying69 rfl sizeOf4 rfl (aI (aS 32 (l' := [_, _, _, _, _, _, _, _, _, _, _, _, _, _, _, _, _, _, _, _, _, _, _, _, _, _, _, _, _, _, _, _, _, _]) zh sizeOf4 rfl rfl (by first | rfl | assumption) rfl rfl) ?_))))))))
      rintro _ TT oW
      refine bT rfl (bf 0 underlying69 rfl sizeOf64 rfl (bf 10 underlying64 rfl sizeOf4 rfl (aI (aS 10 (l' := [_, _, _, _, _, _, _, _, _, _, _, _, _, _, _, _, _, _, _, _, _, _, _, _, _, _, _, _, _, _, _, _, _, _]) oW sizeOf4 rfl rfl (by first | rfl | assumption) rfl rfl) ?_)))
      rintro _ XC IW
      refine aB (aj (ay (ah (aW rfl (aB (aj (aN (aT (.inl rfl) results38 rfl ?_))))))))
      have hut := (IW.f8).Tj k
      have abo : t.vF.size ≤ 16384 := Gy dL.1 (Z8 ▸ hk9.2.2.2.2.2) (by rw [hfL]; exact hLl)
      have HQ := IW.f5.right.f12.right.f11.f11.f11.f11.f9.f11.f10.f10.f11.f11.f11
      rw [Ti] at HQ
      exact ⟨by rw [hE], by unfold bH.vG; rw [if_pos hE]; dsimp only; rw [ht]; exact aA.eG (s := { t with whole := false, c := { t.c with tx := uo t.c.tx t.c.place (some t.vF), place := k, L := s.uw k, pt := (s.uw k).length, mark := -1, run := false } }) (U0 dL (ht ▸ PW s false) (Z8 ▸ hgood) abo hut) bM HQ⟩
    ·skip
     refine ay (ah (aP rfl (aP rfl (bT rfl (bf 0 underlying69 rfl sizeOf64 rfl (bf 2 underlying64 rfl sizeOf61 rfl (dA underlying61 rfl (vM.f3).get.2 rfl (bT rfl (bf 0 underlying125 rfl sizeOf3 rfl (dA underlying3 rfl (vM.f5).get.2 rfl (aU (dG rfl rfl) (aB (aj (aO rfl (fun h5 => ?_) (fun h5 => ?_)))))))))))))))
     ·(try simp only [aG] at h5)
      have hkp : ¬ k = s.c.place := h5
      refine ah (aP rfl (aP rfl (dD rfl func86 (lX vM.f7.f7.f7.f6) ?_)))
      rintro _ Qh ⟨rfl, vN⟩
      refine gB (qx vN underlying9 underlying104 underlying5 rfl (by omega)) ?_
      rintro l24 Yb Qi
      refine dD rfl func51 (vw Qi (by assumption) (fun W HW => (HW).jH) (by assumption) (by omega)) ?_
      rintro u25 Yc Jz
      refine aW rfl ?_
      have abp := Jz.f15.f15.f15.f15.f10.f15.f11.f11.f15.f15.f13
      have Zi := aA.eG (s := s) dL bM abp
      refine aB ?_
      refine dh (_) (Sub.cons rfl (Sub.nil _)) (Sub.cons rfl (Sub.cons rfl (Sub.nil _))) (by (try dsimp only); exact by unfold bH.uw; first | (rw [if_pos hkp]; exact Zi.f3.right.f3.right.f3.right.f2) | (rw [if_neg hkp]; exact Zi.f3.right.f3.right.f3.right.f2))
     ·(try simp only [aG] at h5)
      have hkp : k = s.c.place := by have h9 := h5; simpa using h9
      have abq := vM.f13.f13.f13.f13.f11.f13.f12.f12.f13.f13.f13
      have Zj := aA.eG (s := s) dL bM abq
      refine aQ ?_
      refine dh (_) (Sub.cons rfl (Sub.nil _)) (Sub.cons rfl (Sub.cons rfl (Sub.nil _))) (by (try dsimp only); exact by unfold bH.uw; first | (rw [if_pos hkp]; exact Zj.f3.right.f2) | (rw [if_neg hkp]; exact Zj.f3.right.f2))
end
end Go.Proofs.YtddekefihgejoaaGreatDoor
end
