import Derived.Test.YtddekefihgejoaaGreatDoorZ2
import Derived.Test.YtddekefihgejoaaGreatDoorZ4
import Derived.Test.YtddekefihgejoaaGreatDoorZ15
import Derived.Laws.IdiomStrings
import Derived.Test.YtddekefihgejoaaGreatDoorZ12
import Derived.Test.YtddekefihgejoaaGreatDoorZ11
import Derived.Scope
import Derived.Laws.RangeString
import Derived.Lib.OthersKept
import Derived.Lib.Bytealg
set_option linter.unusedSimpArgs false
set_option linter.unusedVariables false
/- Texts of mine, joined, their names in short: Utf2 Utf3 Utf4 Utf5 StrB EdG EdGo Str. -/
section
namespace Go.Proofs.YtddekefihgejoaaGreatDoor
open Go.RowKit
open _root_.Go.Proofs.Tryz
theorem OL {r : Int} (h : iJ r = false) : Lib.encodeRuneZ r = [239, 191, 189] := Lib.encodeRuneZ_bad (by
  unfold iJ at h
  simp only [decide_eq_false_iff_not] at h
  omega)
section
variable {w0 w : World} {F : HP} {v : Value} {b l : List Int} {r x y : Int}
theorem LG (H : aB w0 w F) (hT : rZ w0) (hv : iG w0 F .u8 v b) (hb : IC b) (hne : b ≠ []) : gG prog 106 #[v] w fun v' w' => v' = .tuple #[.int .i32 (og b).1, .int .i64 ((og b).2 : Nat)] ∧ aB w0 w' F := by
 have hl := List.length_pos_iff.2 hne
 have y0 := Dt hb 0
 refine iF func106 ntmps106 ?_
 dsimp only [bg, Nat.reduceAdd]
 refine ay (ah (aW rfl (aW rfl (aA (aj (ay (ay (ah (aI rfl (aU (eG (hv _ (H)) underlying104 rfl) (aI rfl (aA (aj (bf ?_))))))))))))))
 obtain ⟨av, cv, ev, -⟩ := jc.open (hv _ (H))
 subst ev
 refine eP [(0, _), (6, _), (7, _)] (fun (k : Nat) => [(8, .int .i64 (k : Int))]) (fun (k : Nat) W => k = 0 ∧ aB w0 W F) (fun (k : Nat) => 0) (0) (Sub.cons rfl (Sub.cons rfl (Sub.cons rfl (Sub.nil _)))) (Sub.cons rfl (Sub.nil _)) ⟨rfl, H⟩ ?_
 rintro k w2 ⟨rfl, HL⟩
 dsimp only [List.cons_append, List.nil_append]
 refine ay (ah (aU (dB rfl rfl) (aA (aj (ay (aP rfl (fun h1 => ?_) (fun h => by exfalso; (try simp only [aG] at h); first | contradiction | omega | (simp at h <;> omega))))))))
 (try simp only [aG] at h1)
 refine aO (aj (ay (bf (ay (ah ?_)))))
 obtain ⟨bv, ov, rfl⟩ := jc.pos (hv _ (HL)) (by omega)
 refine aU (bY underlying104 sizeOf5 rfl rfl (by omega)) ?_
 refine aU (dZ (bU underlying5 rfl) rfl (by first | exact jc.nZ (hv _ (HL)) (by omega) | exact jc.AV (hv _ (HL)) (by omega) | exact jc.zX (hv _ (HL)) (by omega))) ?_
 simp only [Int.natCast_zero]
 refine aW rfl (aA (aj (ay (ay (ah (aI rfl (aU (dB rfl rfl) (aA (aj (aP rfl (fun h2 => ?_) (fun h2 => ?_)))))))))))
 ·(try simp only [aG] at h2)
  refine ay (ah (aI rfl ?_))
  refine aU (iH rfl (by rw [underlying5]; rfl) underlying21 (jk (by omega))) ?_
  refine aW rfl (aW rfl (aA (aj (aK (aN (aX (aN (aN (aX (aN (gW (.inl rfl) results106 rfl rfl ?_)))))))))))
  exact ⟨by rw [Du hne (by omega)]; rfl, HL⟩
 ·(try simp only [aG] at h2)
  refine aO (aj (dK ?_))
  refine jZ (by decide) ?_
  refine aV (aV (bD (aj (ay (ah (aI rfl (dH rfl func152 (PU HL hT (fun W HW => hv _ (HW)) (by assumption) (by assumption)) ?_)))))))
  rintro _ w3 ⟨rfl, H3⟩
  refine aI rfl (wU rfl rfl (wU rfl rfl (aW rfl (aW rfl (aA (aj (aK (gW (.inl rfl) results106 rfl rfl ?_))))))))
  exact ⟨rfl, H3⟩
theorem JJ (H : aB w0 w (iD 5 .u8 v l • F)) (hl : l.length ≤ 70368744177664) (hr : ¬ (0 ≤ r ∧ r ≤ 127)) (hw : -2147483648 ≤ r ∧ r < 2147483648) :
  gG prog 180 #[v, .int .i32 r] w fun v' w' => aB w0 w' (iD 5 .u8 v' (l ++ Lib.encodeRuneZ r) • F) := by
 refine iF func180 ntmps180 ?_
 dsimp only [bg, Nat.reduceAdd]
 refine ay (ah (aW rfl (aA (aj (ay (ah (aI rfl ?_)))))))
 refine aU (Dq rfl (by rw [underlying21]; rfl) underlying253) ?_
 refine aW rfl (aA (aj (bf (ay (ah (aI rfl (aU (qU rfl rfl) (aW rfl (aA (aj (aP rfl (fun h1 => ?_) (fun h1 => ?_))))))))))))
 ·(try simp only [aG] at h1)
  refine ay (ah (aI rfl (aI rfl (aU (rD 6 64 (by decide) (by decide) rfl rfl) ?_))))
  refine aU (eU rfl (by rw [underlying21]; rfl) underlying5) ?_
  refine aU (iU 6 64 (by decide) rfl rfl (by omega)) (aI rfl ?_)
  refine aU (eU rfl (by rw [underlying21]; rfl) underlying5) ?_
  refine aU (fD 6 63 64 (by decide) (by decide) (by decide) rfl rfl (by omega)) (aU (iU 7 128 (by decide) rfl rfl (by omega)) (iw (gI (k := .u8) (l := [_, _]) H underlying104 sizeOf5 zeroValue5 rfl rfl rfl (by decide)) ?_))
  rintro l1 w1 H1
  refine iw (dJ H1.f2 ((H1).aT) underlying104 (show (prog.info? 5).map (fun i => (i.zero, i.size, i.bytes)) = some (some (.int .u8 0), 1, 1) by kernel_rfl) rfl rfl (by first | omega | (simp only [List.length_append, List.length_nil, List.length_cons]; omega) | (simp; omega)) (by first | omega | (simp only [List.length_append, List.length_nil, List.length_cons]; omega) | (simp; omega))) ?_
  rintro l2 w2 H2
  try simp only [List.nil_append] at H2
  refine aW rfl (aA (aj (aK (aX (aQ (.inl rfl) results180 rfl ?_)))))
  rw [Lib.encodeRuneZ_two (by omega) (by omega)]
  have HX := H2.f2.right
  rw [show r / 64 % 256 = r / 64 from by omega, show r % 256 % 64 = r % 64 from by omega] at HX
  exact HX
 ·(try simp only [aG] at h1)
  refine ay (ay (ah (aI rfl (aU (dB rfl rfl) (aW rfl (aA (aj (aP rfl (fun h2 => ?_) (fun h2 => ?_)))))))))
  ·(try simp only [aG] at h2)
   refine aO (aj (aP rfl (fun h3 => ?_) (fun h3 => ?_)))
   ·(try simp only [aG] at h3)
    refine ay (ah (aI rfl (aI rfl (aU (rD 12 4096 (by decide) (by decide) rfl rfl) ?_))))
    refine aU (eU rfl (by rw [underlying21]; rfl) underlying5) ?_
    refine aU (iU 5 32 (by decide) rfl rfl (by omega)) (aI rfl (aU (rD 6 64 (by decide) (by decide) rfl rfl) ?_))
    refine aU (eU rfl (by rw [underlying21]; rfl) underlying5) ?_
    refine aU (fD 6 63 64 (by decide) (by decide) (by decide) rfl rfl (by omega)) (aU (iU 7 128 (by decide) rfl rfl (by omega)) (aI rfl ?_))
    refine aU (eU rfl (by rw [underlying21]; rfl) underlying5) ?_
    refine aU (fD 6 63 64 (by decide) (by decide) (by decide) rfl rfl (by omega)) (aU (iU 7 128 (by decide) rfl rfl (by omega)) (iw (gI (k := .u8) (l := [_, _, _]) H underlying104 sizeOf5 zeroValue5 rfl rfl rfl (by decide)) ?_))
    rintro l3 w3 H3
    refine iw (dJ H3.f2 ((H3).aT) underlying104 (show (prog.info? 5).map (fun i => (i.zero, i.size, i.bytes)) = some (some (.int .u8 0), 1, 1) by kernel_rfl) rfl rfl (by first | omega | (simp only [List.length_append, List.length_nil, List.length_cons]; omega) | (simp; omega)) (by first | omega | (simp only [List.length_append, List.length_nil, List.length_cons]; omega) | (simp; omega))) ?_
    rintro l4 w4 H4
    try simp only [List.nil_append] at H4
    refine aW rfl (aA (aj (aK (aX (aQ (.inl rfl) results180 rfl ?_)))))
    rw [Lib.encodeRuneZ_three (by omega)]
    have HX := H4.f2.right
    rw [show r / 4096 % 256 = r / 4096 from by omega, show r / 64 % 256 % 64 = r / 64 % 64 from by omega, show r % 256 % 64 = r % 64 from by omega] at HX
    exact HX
   ·(try simp only [aG] at h3)
    refine ay (ah (aI rfl (aU (fB rfl rfl) (iM rfl (fun h4 => ?_) (fun h4 => ?_)))))
    ·(try simp only [aG] at h4)
     refine aY (aI rfl (aY (aU (qU rfl rfl) (fK rfl rfl (aW rfl (aA (aj (aP rfl (fun h5 => ?_) (fun h5 => ?_)))))))))
     ·(try simp only [aG] at h5)
      refine ay (ah (aI rfl (aI rfl (aU (rD 18 262144 (by decide) (by decide) rfl rfl) ?_))))
      refine aU (eU rfl (by rw [underlying21]; rfl) underlying5) ?_
      refine aU (iU 4 16 (by decide) rfl rfl (by omega)) (aI rfl (aU (rD 12 4096 (by decide) (by decide) rfl rfl) ?_))
      refine aU (eU rfl (by rw [underlying21]; rfl) underlying5) ?_
      refine aU (fD 6 63 64 (by decide) (by decide) (by decide) rfl rfl (by omega)) (aU (iU 7 128 (by decide) rfl rfl (by omega)) (aI rfl (aU (rD 6 64 (by decide) (by decide) rfl rfl) ?_)))
      refine aU (eU rfl (by rw [underlying21]; rfl) underlying5) ?_
      refine aU (fD 6 63 64 (by decide) (by decide) (by decide) rfl rfl (by omega)) (aU (iU 7 128 (by decide) rfl rfl (by omega)) (aI rfl ?_))
      refine aU (eU rfl (by rw [underlying21]; rfl) underlying5) ?_
      refine aU (fD 6 63 64 (by decide) (by decide) (by decide) rfl rfl (by omega)) (aU (iU 7 128 (by decide) rfl rfl (by omega)) (iw (gI (k := .u8) (l := [_, _, _, _]) H underlying104 sizeOf5 zeroValue5 rfl rfl rfl (by decide)) ?_))
      rintro l5 w5 H5
      refine iw (dJ H5.f2 ((H5).aT) underlying104 (show (prog.info? 5).map (fun i => (i.zero, i.size, i.bytes)) = some (some (.int .u8 0), 1, 1) by kernel_rfl) rfl rfl (by first | omega | (simp only [List.length_append, List.length_nil, List.length_cons]; omega) | (simp; omega)) (by first | omega | (simp only [List.length_append, List.length_nil, List.length_cons]; omega) | (simp; omega))) ?_
      rintro l6 w6 H6
      try simp only [List.nil_append] at H6
      refine aW rfl (aA (aj (aK (aX (aQ (.inl rfl) results180 rfl ?_)))))
      rw [Lib.encodeRuneZ_four (by omega) (by omega)]
      have HX := H6.f2.right
      rw [show r / 262144 % 256 = r / 262144 from by omega, show r / 4096 % 256 % 64 = r / 4096 % 64 from by omega, show r / 64 % 256 % 64 = r / 64 % 64 from by omega, show r % 256 % 64 = r % 64 from by omega] at HX
      exact HX
     ·(try simp only [aG] at h5)
      refine ay (ah (aI rfl (iw (gI (k := .u8) (l := [239, 191, 189]) H underlying104 sizeOf5 zeroValue5 rfl rfl rfl (by decide)) ?_)))
      rintro l7 w7 H7
      refine iw (dJ H7.f2 ((H7).aT) underlying104 (show (prog.info? 5).map (fun i => (i.zero, i.size, i.bytes)) = some (some (.int .u8 0), 1, 1) by kernel_rfl) rfl rfl (by first | omega | (simp only [List.length_append, List.length_nil, List.length_cons]; omega) | (simp; omega)) (by first | omega | (simp only [List.length_append, List.length_nil, List.length_cons]; omega) | (simp; omega))) ?_
      rintro l8 w8 H8
      try simp only [List.nil_append] at H8
      refine aW rfl (aA (aj (aK (aX (aQ (.inl rfl) results180 rfl ?_)))))
      rw [Lib.encodeRuneZ_bad (by omega)]
      exact H8.f2.right
    ·(try simp only [aG] at h4)
     refine aZ (aZ (fC rfl rfl (aW rfl (aA (aj (nY (ay (ah (aI rfl (iw (gI (k := .u8) (l := [239, 191, 189]) H underlying104 sizeOf5 zeroValue5 rfl rfl rfl (by decide)) ?_))))))))))
     rintro l9 w9 H9
     refine iw (dJ H9.f2 ((H9).aT) underlying104 (show (prog.info? 5).map (fun i => (i.zero, i.size, i.bytes)) = some (some (.int .u8 0), 1, 1) by kernel_rfl) rfl rfl (by first | omega | (simp only [List.length_append, List.length_nil, List.length_cons]; omega) | (simp; omega)) (by first | omega | (simp only [List.length_append, List.length_nil, List.length_cons]; omega) | (simp; omega))) ?_
     rintro l10 w10 qL
     try simp only [List.nil_append] at qL
     refine aW rfl (aA (aj (aK (aX (aQ (.inl rfl) results180 rfl ?_)))))
     rw [Lib.encodeRuneZ_bad (by omega)]
     exact qL.f2.right
  ·(try simp only [aG] at h2)
   refine ah (aI rfl (aU (dB rfl rfl) (iM rfl (fun h6 => ?_) (fun h6 => ?_))))
   ·(try simp only [aG] at h6)
    refine aY (aI rfl (aY (aU (qU rfl rfl) (fK rfl rfl (aW rfl (aA (aj (aP rfl (fun h7 => ?_) (fun h7 => ?_)))))))))
    ·(try simp only [aG] at h7)
     refine ay (ah (aI rfl (aI rfl (aU (rD 12 4096 (by decide) (by decide) rfl rfl) ?_))))
     refine aU (eU rfl (by rw [underlying21]; rfl) underlying5) ?_
     refine aU (iU 5 32 (by decide) rfl rfl (by omega)) (aI rfl (aU (rD 6 64 (by decide) (by decide) rfl rfl) ?_))
     refine aU (eU rfl (by rw [underlying21]; rfl) underlying5) ?_
     refine aU (fD 6 63 64 (by decide) (by decide) (by decide) rfl rfl (by omega)) (aU (iU 7 128 (by decide) rfl rfl (by omega)) (aI rfl ?_))
     refine aU (eU rfl (by rw [underlying21]; rfl) underlying5) ?_
     refine aU (fD 6 63 64 (by decide) (by decide) (by decide) rfl rfl (by omega)) (aU (iU 7 128 (by decide) rfl rfl (by omega)) (iw (gI (k := .u8) (l := [_, _, _]) H underlying104 sizeOf5 zeroValue5 rfl rfl rfl (by decide)) ?_))
     rintro XK Gq sD
     refine iw (dJ sD.f2 ((sD).aT) underlying104 (show (prog.info? 5).map (fun i => (i.zero, i.size, i.bytes)) = some (some (.int .u8 0), 1, 1) by kernel_rfl) rfl rfl (by first | omega | (simp only [List.length_append, List.length_nil, List.length_cons]; omega) | (simp; omega)) (by first | omega | (simp only [List.length_append, List.length_nil, List.length_cons]; omega) | (simp; omega))) ?_
     rintro l12 w12 vV
     try simp only [List.nil_append] at vV
     refine aW rfl (aA (aj (aK (aX (aQ (.inl rfl) results180 rfl ?_)))))
     rw [Lib.encodeRuneZ_three (by omega)]
     have HX := vV.f2.right
     rw [show r / 4096 % 256 = r / 4096 from by omega, show r / 64 % 256 % 64 = r / 64 % 64 from by omega, show r % 256 % 64 = r % 64 from by omega] at HX
     exact HX
    ·(try simp only [aG] at h7)
     refine ay (ah (aI rfl (aU (fB rfl rfl) (iM rfl (fun h8 => ?_) (fun h8 => ?_)))))
     ·(try simp only [aG] at h8)
      refine aY (aI rfl (aY (aU (qU rfl rfl) (fK rfl rfl (aW rfl (aA (aj (aP rfl (fun h9 => ?_) (fun h9 => ?_)))))))))
      ·(try simp only [aG] at h9)
       refine ay (ah (aI rfl (aI rfl (aU (rD 18 262144 (by decide) (by decide) rfl rfl) ?_))))
       refine aU (eU rfl (by rw [underlying21]; rfl) underlying5) ?_
       refine aU (iU 4 16 (by decide) rfl rfl (by omega)) (aI rfl (aU (rD 12 4096 (by decide) (by decide) rfl rfl) ?_))
       refine aU (eU rfl (by rw [underlying21]; rfl) underlying5) ?_
       refine aU (fD 6 63 64 (by decide) (by decide) (by decide) rfl rfl (by omega)) (aU (iU 7 128 (by decide) rfl rfl (by omega)) (aI rfl (aU (rD 6 64 (by decide) (by decide) rfl rfl) ?_)))
       refine aU (eU rfl (by rw [underlying21]; rfl) underlying5) ?_
       refine aU (fD 6 63 64 (by decide) (by decide) (by decide) rfl rfl (by omega)) (aU (iU 7 128 (by decide) rfl rfl (by omega)) (aI rfl ?_))
       refine aU (eU rfl (by rw [underlying21]; rfl) underlying5) ?_
       refine aU (fD 6 63 64 (by decide) (by decide) (by decide) rfl rfl (by omega)) (aU (iU 7 128 (by decide) rfl rfl (by omega)) (iw (gI (k := .u8) (l := [_, _, _, _]) H underlying104 sizeOf5 zeroValue5 rfl rfl rfl (by decide)) ?_))
       rintro l13 O7 xQ
       refine iw (dJ xQ.f2 ((xQ).aT) underlying104 (show (prog.info? 5).map (fun i => (i.zero, i.size, i.bytes)) = some (some (.int .u8 0), 1, 1) by kernel_rfl) rfl rfl (by first | omega | (simp only [List.length_append, List.length_nil, List.length_cons]; omega) | (simp; omega)) (by first | omega | (simp only [List.length_append, List.length_nil, List.length_cons]; omega) | (simp; omega))) ?_
       rintro Zt O8 zN
       try simp only [List.nil_append] at zN
       refine aW rfl (aA (aj (aK (aX (aQ (.inl rfl) results180 rfl ?_)))))
       rw [Lib.encodeRuneZ_four (by omega) (by omega)]
       have HX := zN.f2.right
       rw [show r / 262144 % 256 = r / 262144 from by omega, show r / 4096 % 256 % 64 = r / 4096 % 64 from by omega, show r / 64 % 256 % 64 = r / 64 % 64 from by omega, show r % 256 % 64 = r % 64 from by omega] at HX
       exact HX
      ·(try simp only [aG] at h9)
       refine ay (ah (aI rfl (iw (gI (k := .u8) (l := [239, 191, 189]) H underlying104 sizeOf5 zeroValue5 rfl rfl rfl (by decide)) ?_)))
       rintro l15 Sv xE
       refine iw (dJ xE.f2 ((xE).aT) underlying104 (show (prog.info? 5).map (fun i => (i.zero, i.size, i.bytes)) = some (some (.int .u8 0), 1, 1) by kernel_rfl) rfl rfl (by first | omega | (simp only [List.length_append, List.length_nil, List.length_cons]; omega) | (simp; omega)) (by first | omega | (simp only [List.length_append, List.length_nil, List.length_cons]; omega) | (simp; omega))) ?_
       rintro YV w16 rV
       try simp only [List.nil_append] at rV
       refine aW rfl (aA (aj (aK (aX (aQ (.inl rfl) results180 rfl ?_)))))
       rw [Lib.encodeRuneZ_bad (by omega)]
       exact rV.f2.right
     ·(try simp only [aG] at h8)
      refine aZ (aZ (fC rfl rfl (aW rfl (aA (aj (nY (ay (ah (aI rfl (iw (gI (k := .u8) (l := [239, 191, 189]) H underlying104 sizeOf5 zeroValue5 rfl rfl rfl (by decide)) ?_))))))))))
      rintro l17 UF zO
      refine iw (dJ zO.f2 ((zO).aT) underlying104 (show (prog.info? 5).map (fun i => (i.zero, i.size, i.bytes)) = some (some (.int .u8 0), 1, 1) by kernel_rfl) rfl rfl (by first | omega | (simp only [List.length_append, List.length_nil, List.length_cons]; omega) | (simp; omega)) (by first | omega | (simp only [List.length_append, List.length_nil, List.length_cons]; omega) | (simp; omega))) ?_
      rintro l18 Tz Bd
      try simp only [List.nil_append] at Bd
      refine aW rfl (aA (aj (aK (aX (aQ (.inl rfl) results180 rfl ?_)))))
      rw [Lib.encodeRuneZ_bad (by omega)]
      exact Bd.f2.right
   ·(try simp only [aG] at h6)
    refine aZ (aZ (fC rfl rfl (aW rfl (aA (aj (nY (ay (ah (aI rfl (aU (fB rfl rfl) (iM rfl (fun h10 => ?_) (fun h10 => ?_))))))))))))
    ·(try simp only [aG] at h10)
     refine aY (aI rfl (aY (aU (qU rfl rfl) (fK rfl rfl (aW rfl (aA (aj (aP rfl (fun h11 => ?_) (fun h11 => ?_)))))))))
     ·(try simp only [aG] at h11)
      refine ay (ah (aI rfl (aI rfl (aU (rD 18 262144 (by decide) (by decide) rfl rfl) ?_))))
      refine aU (eU rfl (by rw [underlying21]; rfl) underlying5) ?_
      refine aU (iU 4 16 (by decide) rfl rfl (by omega)) (aI rfl (aU (rD 12 4096 (by decide) (by decide) rfl rfl) ?_))
      refine aU (eU rfl (by rw [underlying21]; rfl) underlying5) ?_
      refine aU (fD 6 63 64 (by decide) (by decide) (by decide) rfl rfl (by omega)) (aU (iU 7 128 (by decide) rfl rfl (by omega)) (aI rfl (aU (rD 6 64 (by decide) (by decide) rfl rfl) ?_)))
      refine aU (eU rfl (by rw [underlying21]; rfl) underlying5) ?_
      refine aU (fD 6 63 64 (by decide) (by decide) (by decide) rfl rfl (by omega)) (aU (iU 7 128 (by decide) rfl rfl (by omega)) (aI rfl ?_))
      refine aU (eU rfl (by rw [underlying21]; rfl) underlying5) ?_
      refine aU (fD 6 63 64 (by decide) (by decide) (by decide) rfl rfl (by omega)) (aU (iU 7 128 (by decide) rfl rfl (by omega)) (iw (gI (k := .u8) (l := [_, _, _, _]) H underlying104 sizeOf5 zeroValue5 rfl rfl rfl (by decide)) ?_))
      rintro l19 Sz xk
      refine iw (dJ xk.f2 ((xk).aT) underlying104 (show (prog.info? 5).map (fun i => (i.zero, i.size, i.bytes)) = some (some (.int .u8 0), 1, 1) by kernel_rfl) rfl rfl (by first | omega | (simp only [List.length_append, List.length_nil, List.length_cons]; omega) | (simp; omega)) (by first | omega | (simp only [List.length_append, List.length_nil, List.length_cons]; omega) | (simp; omega))) ?_
      rintro XV SA yJ
      try simp only [List.nil_append] at yJ
      refine aW rfl (aA (aj (aK (aX (aQ (.inl rfl) results180 rfl ?_)))))
      rw [Lib.encodeRuneZ_four (by omega) (by omega)]
      have HX := yJ.f2.right
      rw [show r / 262144 % 256 = r / 262144 from by omega, show r / 4096 % 256 % 64 = r / 4096 % 64 from by omega, show r / 64 % 256 % 64 = r / 64 % 64 from by omega, show r % 256 % 64 = r % 64 from by omega] at HX
      exact HX
     ·(try simp only [aG] at h11)
      refine ay (ah (aI rfl (iw (gI (k := .u8) (l := [239, 191, 189]) H underlying104 sizeOf5 zeroValue5 rfl rfl rfl (by decide)) ?_)))
      rintro ZQ TA pF
      refine iw (dJ pF.f2 ((pF).aT) underlying104 (show (prog.info? 5).map (fun i => (i.zero, i.size, i.bytes)) = some (some (.int .u8 0), 1, 1) by kernel_rfl) rfl rfl (by first | omega | (simp only [List.length_append, List.length_nil, List.length_cons]; omega) | (simp; omega)) (by first | omega | (simp only [List.length_append, List.length_nil, List.length_cons]; omega) | (simp; omega))) ?_
      rintro l22 Xh J6
      try simp only [List.nil_append] at J6
      refine aW rfl (aA (aj (aK (aX (aQ (.inl rfl) results180 rfl ?_)))))
      rw [Lib.encodeRuneZ_bad (by omega)]
      exact J6.f2.right
    ·(try simp only [aG] at h10)
     refine aZ (aZ (fC rfl rfl (aW rfl (aA (aj (nY (ay (ah (aI rfl (iw (gI (k := .u8) (l := [239, 191, 189]) H underlying104 sizeOf5 zeroValue5 rfl rfl rfl (by decide)) ?_))))))))))
     rintro l23 PZ vY
     refine iw (dJ vY.f2 ((vY).aT) underlying104 (show (prog.info? 5).map (fun i => (i.zero, i.size, i.bytes)) = some (some (.int .u8 0), 1, 1) by kernel_rfl) rfl rfl (by first | omega | (simp only [List.length_append, List.length_nil, List.length_cons]; omega) | (simp; omega)) (by first | omega | (simp only [List.length_append, List.length_nil, List.length_cons]; omega) | (simp; omega))) ?_
     rintro l24 YP SB
     try simp only [List.nil_append] at SB
     refine aW rfl (aA (aj (aK (aX (aQ (.inl rfl) results180 rfl ?_)))))
     rw [Lib.encodeRuneZ_bad (by omega)]
     exact SB.f2.right
end
end Go.Proofs.YtddekefihgejoaaGreatDoor
end
section
namespace Go.Proofs.YtddekefihgejoaaGreatDoor
open Go.RowKit
open _root_.Go.Proofs.Tryz
section
variable {w0 w : World} {F : HP} {v : Value} {b l : List Int} {r x y : Int}
theorem zI (H : aB w0 w (iD 5 .u8 v l • F)) (hl : l.length ≤ 70368744177664) (hw : -2147483648 ≤ r ∧ r < 2147483648) :
  gG prog 170 #[v, .int .i32 r] w fun v' w' => aB w0 w' (iD 5 .u8 v' (l ++ Lib.encodeRuneZ r) • F) := by
 refine iF func170 ntmps170 ?_
 dsimp only [bg, Nat.reduceAdd]
 refine ay (ah (aW rfl (aA (aj (ay (ay (ah (aI rfl ?_))))))))
 refine aU (Dq rfl (by rw [underlying21]; rfl) underlying253) ?_
 refine aU (qU rfl rfl) (aA (aj (aP rfl (fun h1 => ?_) (fun h1 => ?_))))
 ·(try simp only [aG] at h1)
  refine ay (ah (aI rfl (aI rfl ?_)))
  refine aU (eU rfl (by rw [underlying21]; rfl) underlying5) ?_
  refine iw (gI (k := .u8) (l := [_]) H underlying104 sizeOf5 zeroValue5 rfl rfl rfl (by decide)) ?_
  rintro l1 w1 H1
  refine iw (dJ H1.f2 ((H1).aT) underlying104 (show (prog.info? 5).map (fun i => (i.zero, i.size, i.bytes)) = some (some (.int .u8 0), 1, 1) by kernel_rfl) rfl rfl (by first | omega | (simp only [List.length_append, List.length_nil, List.length_cons]; omega) | (simp; omega)) (by first | omega | (simp only [List.length_append, List.length_nil, List.length_cons]; omega) | (simp; omega))) ?_
  rintro l2 w2 H2
  try simp only [List.nil_append] at H2
  refine aW rfl (aA (aj (aK (aN (aQ (.inl rfl) results170 rfl ?_)))))
  rw [Lib.encodeRuneZ_one (by omega) (by omega)]
  have HX := H2.f2.right
  rw [show r % 256 = r from by omega] at HX
  exact HX
 ·(try simp only [aG] at h1)
  refine aO (aj (ay (ah (aI rfl (aI rfl (dH rfl func180 (JJ H (by omega) (by omega) hw) ?_))))))
  rintro u3 w3 H3
  refine aW rfl (aA (aj (aK (aQ (.inl rfl) results170 rfl ?_))))
  exact H3
end
end Go.Proofs.YtddekefihgejoaaGreatDoor
end
section
namespace Go.Proofs.YtddekefihgejoaaGreatDoor
open Go.RowKit
section
variable {w0 w : World} {F : HP} {v : Value} {b l : List Int} {r x y : Int}
end
end Go.Proofs.YtddekefihgejoaaGreatDoor
end
section
namespace Go.Proofs.YtddekefihgejoaaGreatDoor
open Go.RowKit
open _root_.Go.Proofs.Tryz
theorem OM {b : List Int} (h : IC b) (n : Nat) : IC (b.drop n) := fun x hx => h x (List.mem_of_mem_drop hx)
theorem BD (l : List Int) (k : Nat) (h : k < l.length) : lV (l.take (k + 1)) = lV (l.take k) ++ Lib.encodeRuneZ (l.getD k 0) := by
  unfold lV
  rw [List.take_succ_eq_append_getElem h, List.flatMap_append, List.getD_eq_getElem?_getD, List.getElem?_eq_getElem h]
  simp
theorem FV (l : List Int) : (lV l).length ≤ 4 * l.length := by
  induction l with
  | nil => simp [lV]
  | cons x r ih =>
    have h1 : lV (x :: r) = Lib.encodeRuneZ x ++ lV r := by simp [lV]
    have := (Lib.encodeRuneZ_length x).2
    rw [h1, List.length_append, List.length_cons]
    omega
theorem Ub {l : List Int} (k : Nat) : (lV (l.take k)).length ≤ 4 * l.length := by
  have := FV (l.take k)
  rw [List.length_take] at this
  omega
def tV (l : List Int) : Prop := ∀ x ∈ l, -2147483648 ≤ x ∧ x < 2147483648
theorem V6 {l : List Int} (h : tV l) {k : Nat} (hk : k < l.length) : -2147483648 ≤ l.getD k 0 ∧ l.getD k 0 < 2147483648 := by
  rw [List.getD_eq_getElem?_getD, List.getElem?_eq_getElem hk]; exact h _ (List.getElem_mem hk)
section
variable {w0 w : World} {F : HP} {v : Value} {b l : List Int} {r x y : Int}
theorem uQ (H : aB w0 w F) (hT : rZ w0) (hv : iG w0 F .u8 v b) (hb : IC b) (hL : b.length ≤ 17179869184) : gG prog 51 #[v] w fun v' w' => aB w0 w' (iD 21 .i32 v' (rC b) • F) := by
 refine iF func51 ntmps51 ?_
 dsimp only [bg, Nat.reduceAdd]
 refine ay (ah (aW rfl (aA (aj (ay (ah (aW rfl (aA (aj (ay (bf ?_)))))))))))
 refine eP [] (fun (⟨v2, u, n⟩ : Value × Value × Nat) => [(0, v2), (3, u)]) (fun (⟨v2, u, n⟩ : Value × Value × Nat) W => ∃ b2 l2, (iG w0 F .u8 v2 b2 ∧ IC b2 ∧ l2 ++ rC b2 = rC b ∧ l2.length + b2.length ≤ b.length ∧ b2.length = n) ∧ aB w0 W (iD 21 .i32 u l2 • F)) (fun (⟨v2, u, n⟩ : Value × Value × Nat) => n) ((v, .slice none 0 0, b.length)) (Sub.nil _) (Sub.cons rfl (Sub.cons rfl (Sub.nil _))) ⟨b, [], ⟨hv, hb, rfl, by simp, rfl⟩, (H).iE none⟩ ?_
 rintro ⟨v2, u, n⟩ w1 ⟨b2, l2, ⟨hv2, hb2, hr2, hl2, hn2⟩, HL⟩
 dsimp only [List.cons_append, List.nil_append]
 refine ay (ay (ah (aI rfl (aU (eG (hv2 _ (HL.right)) underlying104 rfl) (aU (fB rfl rfl) (aA (aj (aP rfl (fun h1 => ?_) (fun h1 => ?_)))))))))
 ·(try simp only [aG] at h1)
  refine aO (aj (bf (ay ?_)))
  have hne : b2 ≠ [] := by rintro rfl; simp at *
  have hd := yX hne
  refine ah (aI rfl (dH rfl func106 (LG HL hT (fun W HW => hv2 _ (HW.right)) (by assumption) (by assumption)) ?_))
  rintro _ w2 ⟨rfl, H2⟩
  refine aI rfl (wU rfl rfl (wU rfl rfl (aW rfl (aW rfl (aA (aj (ay (ah (aI rfl (aI rfl (iw (gI (k := .i32) (l := [_]) H2 underlying23 sizeOf21 zeroValue21 rfl rfl rfl (by decide)) ?_)))))))))))
  rintro l3 w3 H3
  refine iw (dJ H3.f2 ((H3).aT) underlying23 (show (prog.info? 21).map (fun i => (i.zero, i.size, i.bytes)) = some (some (.int .i32 0), 1, 4) by kernel_rfl) rfl rfl (by first | omega | (simp only [List.length_append, List.length_nil, List.length_cons]; omega) | (simp; omega)) (by first | omega | (simp only [List.length_append, List.length_nil, List.length_cons]; omega) | (simp; omega))) ?_
  rintro l4 w4 H4
  try simp only [List.nil_append] at H4
  refine aW rfl (aA (aj (ah (aI rfl (aI rfl (aU (uj (hv2 _ (H4.right.right)) underlying104 sizeOf5 rfl rfl rfl (by omega)) (aW rfl (aA (aH ?_)))))))))
  refine cO (_, _, _) (Sub.cons rfl (Sub.cons rfl (Sub.nil _))) (Sub.nil _) (by (try dsimp only); exact ⟨_, _, ⟨fun W HW => jc.from (hv2 W HW) hd.2.1, OM hb2 _, by rw [← hr2, AY hne, List.append_assoc]; rfl, by rw [List.length_append, List.length_drop]; simp only [List.length_cons, List.length_nil]; omega, rfl⟩, H4.f2.right⟩) ?_
  ·(try dsimp only); rw [List.length_drop]; omega
 ·(try simp only [aG] at h1)
  refine dK (aV (aV (bD (aj (ay (ah (aI rfl (aW rfl (aA (aj (aK (aQ (.inl rfl) results51 rfl ?_))))))))))))
  obtain rfl : b2 = [] := List.eq_nil_of_length_eq_zero (by omega)
  rw [Dp, List.append_nil] at hr2
  subst hr2
  exact HL
theorem OO (H : aB w0 w F) (hv : iG w0 F .i32 v l) (hl : tV l) (hL : l.length ≤ 17179869184) : gG prog 135 #[v] w fun v' w' => aB w0 w' (iD 5 .u8 v' (lV l) • F) := by
 refine iF func135 ntmps135 ?_
 dsimp only [bg, Nat.reduceAdd]
 refine ay (ah (aW rfl (aA (aj (ay (ah (aW rfl (aA (aj (ay (ay (ah (aI rfl (aU (eG (hv _ (H)) underlying23 rfl) (aI rfl (aA (aj (bf ?_))))))))))))))))))
 refine eP [(6, _), (7, _)] (fun (⟨k, u⟩ : Nat × Value) => [(8, .int .i64 (k : Int)), (3, u)]) (fun (⟨k, u⟩ : Nat × Value) W => k ≤ l.length ∧ aB w0 W (iD 5 .u8 u (lV (l.take k)) • F)) (fun (⟨k, u⟩ : Nat × Value) => l.length - k) ((0, .slice none 0 0)) (Sub.cons rfl (Sub.cons rfl (Sub.nil _))) (Sub.cons rfl (Sub.cons rfl (Sub.nil _))) ⟨by omega, (H).iE none⟩ ?_
 rintro ⟨k, u⟩ w1 ⟨hk, HL⟩
 dsimp only [List.cons_append, List.nil_append]
 refine ay (ah (aU (dB rfl rfl) (aA (aj (ay (aP rfl (fun h1 => ?_) (fun h1 => ?_)))))))
 ·(try simp only [aG] at h1)
  refine aO (aj (ay (bf (ay ?_))))
  have hkl : k < l.length := by omega
  have hbb := Ub (l := l) k
  have hrr := V6 hl hkl
  refine ah ?_
  obtain ⟨bv, ov, cv, ev⟩ := jc.kV (hv _ (HL.right)) (by omega)
  cases ev
  refine aU (bY underlying23 sizeOf21 rfl rfl (by omega)) ?_
  refine aU (dZ (bU underlying21 rfl) rfl (by first | exact jc.nZ (hv _ (HL.right)) (by omega) | exact jc.AV (hv _ (HL.right)) (by omega) | exact jc.zX (hv _ (HL.right)) (by omega))) ?_
  refine aW rfl (aA (aj (ay (ay (ah (aI rfl (dH rfl func169 (Vk) ?_)))))))
  rintro _ _ ⟨rfl, rfl⟩
  refine aU (gQ rfl) (aA (aj (aP rfl (fun h2 => ?_) (fun h2 => ?_))))
  ·(try simp only [aG] at h2)
   have henc : Lib.encodeRuneZ (l.getD k 0) = Lib.encodeRuneZ 65533 := by rw [OL (by simpa using h2)]; rfl
   refine ah (aW rfl (aA (aj (ah (aI rfl (aI rfl (dH rfl func170 (zI HL (by omega) (by omega)) ?_)))))))
   rintro u3 w3 H3
   refine aW rfl (aA (aH (aj (ah (aU (dG rfl rfl (by omega)) (aI rfl (aA ?_)))))))
   refine cO ((k + 1, u3)) ?_ ?_ ?_ ?_
   ·exact (Sub.cons rfl (Sub.cons rfl (Sub.nil _)))
   ·exact (Sub.cons rfl (Sub.cons rfl (Sub.nil _)))
   ·(try dsimp only)
    first | done | exact ⟨by omega, by rw [BD l k hkl]; first | exact H3 | (rw [henc]; exact H3)⟩
   ·(try dsimp only); omega
  ·(try simp only [aG] at h2)
   refine aO (aj (ah (aI rfl (aI rfl (dH rfl func170 (zI HL (by omega) (by omega)) ?_)))))
   rintro u4 w4 H4
   refine aW rfl (aA (aH (aj (ah (aU (dG rfl rfl (by omega)) (aI rfl (aA ?_)))))))
   refine cO ((k + 1, u4)) ?_ ?_ ?_ ?_
   ·exact (Sub.cons rfl (Sub.cons rfl (Sub.nil _)))
   ·exact (Sub.cons rfl (Sub.cons rfl (Sub.nil _)))
   ·(try dsimp only)
    first | done | exact ⟨by omega, by rw [BD l k hkl]; first | exact H4 | (rw [henc]; exact H4)⟩
   ·(try dsimp only); omega
 ·(try simp only [aG] at h1)
  refine dK (aV (aV (bD (aj (ay (ah (aI rfl (aW rfl (aA (aj (aK (aQ (.inl rfl) results135 rfl ?_))))))))))))
  obtain rfl : k = l.length := by omega
  rw [List.take_length] at HL
  exact HL
end
end Go.Proofs.YtddekefihgejoaaGreatDoor
end
section
namespace Go.Proofs.YtddekefihgejoaaGreatDoor
open Go.RowKit
def FW (l : List Int) : ByteArray := l.foldl (fun s n => s.push (UInt8.ofNat n.toNat)) .empty
theorem LH (l : List Int) : FW l = ⟨(l.map fun n => UInt8.ofNat n.toNat).toArray⟩ := by
  have key : ∀ (l : List Int) (s : ByteArray), l.foldl (fun s n => s.push (UInt8.ofNat n.toNat)) s = ⟨s.data ++ (l.map fun n => UInt8.ofNat n.toNat).toArray⟩ := by
    intro l
    induction l with
    | nil => intro s; simp
    | cons x r ih =>
      intro s
      rw [List.foldl_cons, ih]
      simp [ByteArray.push]
  unfold FW
  rw [key]
  simp
def oM (s : ByteArray) : List Int := s.data.toList.map fun b => (b.toNat : Int)
theorem jV (s : ByteArray) : (oM s).length = s.size := by unfold oM; simp
theorem uS (s : ByteArray) : ∀ x ∈ oM s, 0 ≤ x ∧ x < 256 := by
  intro x hx
  obtain ⟨b, _, rfl⟩ := List.mem_map.1 hx
  have := b.toNat_lt
  omega
section
variable {P : Program} {L : List (Nat × Value)} {w0 w : World} {F : HP} {ty : TypeId} {x : Operand}
theorem JK {src dst e : TypeId} {v : Value} {l : List Int} (hs : P.underlying src = some (.slice e)) (hd : P.underlying dst = some .string) (he : P.underlying e = some (.int .u8)) (hx : ev L x = some v) (hr : jc w .u8 v l) :
    Val P L (.convert src dst x) ty w (.string (FW l)) w := fun ρ hρ _ _ _ _ => by
  obtain ⟨a, c, rfl, _, _, hc⟩ := Rd.cells (P := P) hr
  have loop : ∀ (f : Value → ByteArray → Sem (ForInStep ByteArray)), (∀ n s, f (.int .u8 n) s = pure (ForInStep.yield (s.push (UInt8.ofNat n.toNat)))) → ∀ (l : List Int) (s : ByteArray), (forIn (m := Sem) (l.map (Value.int .u8)).toArray s f).run P w = .ok (l.foldl (fun s n => s.push (UInt8.ofNat n.toNat)) s) w := by
    intro f hf l
    induction l with
    | nil => intro s; rfl
    | cons x l ih => intro s; simp [hf] at ih ⊢; try exact ih _
  have h1 : (Conv.bytesToString (.slice a l.length c)).run P w = .ok (.string (FW l)) w := by
    unfold Conv.bytesToString
    cases a with
    | none =>
      have : l = [] := by
        cases l with
        | nil => rfl
        | cons x l =>
          obtain ⟨_, _, e, _, _, hh⟩ := hr.open
          cases e
          obtain ⟨_, _, e, _⟩ := hh (by simp)
          cases e
      subst this; rfl
    | some a =>
      have h2 : (loadCells a l.length).run P w = .ok (l.map (Value.int .u8)).toArray w := by simpa [Builtin.firstCells] using hc
      simp only [Sem.run_bind, h2, Result.andThen_ok]
      rw [loop]
      · rfl
      · intro n s; rfl
  simp [execOp, hρ _ _ hx, convert, run_underlying hs, run_underlying hd, run_underlying he, h1]
theorem pO {src dst e : TypeId} {s : ByteArray} (H : aB w0 w F) (hs : P.underlying src = some .string) (hd : P.underlying dst = some (.slice e)) (he : P.underlying e = some (.int .u8)) (hx : ev L x = some (.string s)) (h63 : (s.size : Int) ≤ 4611686018427387904) :
    rU P L (.convert src dst x) ty w fun v w' => aB w0 w' (pU .u8 v (oM s) • F) := by
  have hge := grownCap_ge w s.size 0 e
  refine nG (v := .slice (some ⟨w.heap.size, 0, none⟩) s.size (grownCap w s.size 0 e)) (w' := w.drew.alloc (.cells (bytesRow s (grownCap w s.size 0 e)) e ((bytesRow s (grownCap w s.size 0 e)).size, (bytesRow s (grownCap w s.size 0 e)).size + 1))) ?_ ?_
  · intro ρ hρ d pos lH g
    simp only [execOp, hρ _ _ hx, Sem.run_bind, run_bytes_of_string w src dst e s hs hd he]
    rfl
  · refine (H.drew.alloc _).freeze.EH (qZ (fun I hI => ?_) F)
    refine ⟨some ⟨w.heap.size, 0, none⟩, grownCap w s.size 0 e, by rw [jV], by rw [jV]; exact hge, wF w _ _ _ (by omega), fun _ => ⟨w.heap.size, 0, _, _, _, rfl, hI, fun j hj => ?_⟩⟩
    rw [jV] at hj
    unfold bytesRow oM
    rw [Nat.zero_add, Array.getElem?_append_left (by simpa using hj)]
    simp [List.getD_eq_getElem?_getD]
    have hj2 : j < s.data.size := hj
    exact ⟨s.data[j], Array.getElem?_eq_getElem hj2, by rw [Array.getElem?_eq_getElem hj2]; rfl⟩
end
end Go.Proofs.YtddekefihgejoaaGreatDoor
end
section
namespace Go.Proofs.YtddekefihgejoaaGreatDoor
open Go.RowKit
open _root_.Go.Proofs.Tryz
def yI (hl : List lC) (tx : Int → Option ByteArray) (place : Int) (L : List Int) : ByteArray := if rC (oM (fF hl tx place)) = L then fF hl tx place else FW (lV L)
theorem mG {hl : List lC} {tx : Int → Option ByteArray} (h1 : ∀ x ∈ hl, Qz x) (h2 : ∀ k t, tx k = some t → t.size ≤ 16384) (k : Int) : (fF hl tx k).size ≤ 16384 := by
  unfold fF
  cases h : tx k with
  | some t => exact h2 k t h
  | none =>
    show (sJ hl k).size ≤ 16384
    unfold sJ KZ
    split
    · rename_i hk
      rw [List.getD_eq_getElem?_getD, List.getElem?_eq_getElem (by omega)]
      exact (h1 _ (List.getElem_mem _)).1
    · simp
section
variable {w0 w : World} {F : HP} {e pb pw pt ph : Nat} {L : List Int} {V5 mk place base most : Int} {tx : Int → Option ByteArray} {hl : List lC}
theorem BF {x1 x3 x4 x5 x6 x7 x8 x9 x10 x12 zF x14 x15 x16 x17 x18 x19 x20 x21 yK x23 x24 x25 yL x27 x28 x29 x30 x31 x32 Bl : Value} (H : aB w0 w (dh e (.cells (.pointer (some ⟨pb, 0, none⟩) :: x1 :: .pointer (some ⟨pw, 0, none⟩) :: x3 :: x4 :: x5 :: x6 :: x7 :: x8 :: x9 :: x10 :: .pointer (some ⟨ph, 0, none⟩) :: x12 :: zF :: x14 :: x15 :: x16 :: x17 :: x18 :: x19 :: x20 :: x21 :: yK :: x23 :: x24 :: x25 :: yL :: x27 :: x28 :: x29 :: x30 :: x31 :: x32 :: Bl :: []).toArray 69 (0, 0)) • dM pb L V5 mk • dh pw (.cells #[.int .i64 place, .map (some pt)] 125 (0, 0)) • dU lg pt (lq tx) • dn ph hl base most • F))
  (hT : rZ w0) (hR : tV L) (hsz : (fF hl tx place).size ≤ 16384) :
  gG prog 85 #[.pointer (some ⟨e, 0, none⟩)] w fun v' w' => v' = .string (yI hl tx place L) ∧ aB w0 w' (dh e (.cells (.pointer (some ⟨pb, 0, none⟩) :: x1 :: .pointer (some ⟨pw, 0, none⟩) :: x3 :: x4 :: x5 :: x6 :: x7 :: x8 :: x9 :: x10 :: .pointer (some ⟨ph, 0, none⟩) :: x12 :: zF :: x14 :: x15 :: x16 :: x17 :: x18 :: x19 :: x20 :: x21 :: yK :: x23 :: x24 :: x25 :: yL :: x27 :: x28 :: x29 :: x30 :: x31 :: x32 :: Bl :: []).toArray 69 (0, 0)) • dM pb L V5 mk • dh pw (.cells #[.int .i64 place, .map (some pt)] 125 (0, 0)) • dU lg pt (lq tx) • dn ph hl base most • F) := by
 have hbz : (oM (fF hl tx place)).length ≤ 17179869184 := by rw [jV]; omega
 have hbi : IC (oM (fF hl tx place)) := uS _
 have hLl : L.length ≤ 1024 := by obtain ⟨a, c, xs, f, t, h1, h2, h3, h4, h5, h6, h7, hc1, hc2, hl, H1⟩ := (H.f2).buf; exact h4
 refine iF func85 ntmps85 ?_
 dsimp only [bg, Nat.reduceAdd]
 refine ay (ah (aW rfl (aA (aj (ay (ay (ah (aI rfl (aI rfl (bQ rfl (bC 0 underlying69 rfl sizeOf64 rfl (bC 2 underlying64 rfl sizeOf61 rfl (eu underlying61 rfl (H).get.2 rfl (bQ rfl (bC 0 underlying125 rfl sizeOf3 rfl (eu underlying3 rfl (H.f3).get.2 rfl (dH rfl func86 (lN H.f5.f5.f5.f4) ?_)))))))))))))))))
 rintro _ w1 ⟨rfl, H1⟩
 refine aW rfl (aA (aj (ay ?_)))
 have OI := H1.drew
 have kK := aB.kp (OI.f5.f5.f5.f5.f5)
 refine wo [7] kK rfl (gV 0 rfl kK rfl (gV 3 rfl kK rfl (iZ 4 rfl kK rfl (dV 5 rfl kK 0 underlying69 rfl sizeOf64 rfl (dV 6 rfl kK 0 underlying64 rfl sizeOf59 rfl (iy 7 rfl kK (fun W hW => iQ underlying59 rfl ((Kp.h hW)).get.2 rfl) (jr 1 rfl (pO OI underlying9 underlying104 underlying5 rfl (by omega)) ?_)))))))
 rintro l2 w2 H2
 have zq := aB.kp (H2.f6.f6.f6.f6.f6.f6)
 refine bW zq (fun W hW => (Kp.h hW).right.f5.f5.f5.f5.f5) ?_
 refine jr 2 rfl (rX rfl func51 (uQ H2 (by assumption) (fun W HW => (HW).jH) (by assumption) (by omega))) ?_
 rintro u3 w3 H3
 have BQ := aB.kp (H3.f7.f7.f7.f7.f7.f7.f7)
 refine bW BQ (fun W hW => (Kp.h hW).right.f6.f6.f6.f6.f6.f6) ?_
 refine jr 8 rfl (rX rfl func121 (nO H3.f7)) ?_
 rintro u4 w4 H4
 have uz := aB.kp (H4.f8.f8.f8.f8.f8.f8.f8.f8)
 refine dR uz (by kernel_rfl) ?_
 refine jr 9 rfl (rX rfl func70 (zY _ _ _ _ _ ((H4.f3).aT) ((H4).aT))) ?_
 rintro _ w5 ⟨rfl, hD5⟩
 have HD5 := H4.yO hD5
 have uG := aB.kp (HD5.f8.f8.f8.f8.f8.f8.f8.f8)
 refine dR uG (by kernel_rfl) ?_
 refine nJ (aj (aP rfl (fun h1 => ?_) (fun h1 => ?_)))
 ·(try simp only [aG] at h1)
  have hq := h1
  refine ay (ah (aI rfl (aW rfl (aA (aj (aK (aN (aQ (.inl rfl) results85 rfl ?_))))))))
  exact ⟨by unfold yI; rw [if_pos hq], HD5.right.f2.right.f2.right.f5.f5.f5.f4.f5⟩
 ·(try simp only [aG] at h1)
  have hq := h1
  refine aO (aj (ay (ah (aI rfl (bQ rfl (bC 0 underlying69 rfl sizeOf64 rfl (bC 0 underlying64 rfl sizeOf59 rfl (eu underlying59 rfl (HD5.f5).get.2 rfl (dH rfl func121 (nO HD5.f2) ?_)))))))))
  rintro u6 w6 H6
  refine dH rfl func135 (OO H6 (fun W HW => (HW).aT) (by assumption) (by omega)) ?_
  rintro u7 w7 H7
  refine aU (JK underlying104 underlying9 underlying5 rfl ((H7).aT)) (aW rfl (aA (aj (aK (aQ (.inl rfl) results85 rfl ?_)))))
  exact ⟨by unfold yI; rw [if_neg hq], H7.right.right.f2.right.f2.right.f2.right.f5.f5.f5.f4.f5⟩
end
end Go.Proofs.YtddekefihgejoaaGreatDoor
end
section
namespace Go.Proofs.YtddekefihgejoaaGreatDoor
open Go.RowKit
open _root_.Go.Proofs.Tryz
namespace bH
variable (s : bH)
def uT : ByteArray := yI s.hl s.c.tx s.c.place s.c.L
def tX (k : Int) : List Int := rC (oM (if k = s.c.place then s.uT else s.stands k))
def lS (k : Int) : Int := if s.inn then (if k < 0 ∨ s.hl.length < k then 6 else if 1024 < (s.tX k).length then 6 else 0) else 1
def uU (k : Int) : bH :=
  if s.lS k = 0 then
    let t := s.dA false
    { t with whole := false, c := { t.c with tx := tK t.c.tx t.c.place (some t.uT), place := k, L := s.tX k, pt := (s.tX k).length, mark := -1, run := false } }
  else s
end bH
theorem FX {s : bH} (h : Am s.hl s.c) (hl : ∀ x ∈ s.hl, Qz x) (hL : s.c.L.length ≤ 1024) : s.uT.size ≤ 16384 := by
  unfold bH.uT yI
  split
  · exact mG hl h.2.2 _
  · have h1 := FV s.c.L
    have h2 : (FW (lV s.c.L)).size = (lV s.c.L).length := by rw [LH]; show (((lV s.c.L).map fun n => UInt8.ofNat n.toNat).toArray).size = _; simp
    rw [h2]; omega
theorem LJ (s : bH) (on : Bool) : (s.dA on).hl = s.hl ∧ (s.dA on).c.tx = s.c.tx ∧ (s.dA on).c.place = s.c.place ∧ (s.dA on).c.L = s.c.L := by
  unfold bH.dA; split <;> exact ⟨rfl, rfl, rfl, rfl⟩
theorem Ry (tx : Int → Option ByteArray) (k : Int) (b : ByteArray) : upd (lq tx) k (.string b) = lq (tK tx k (some b)) := by
  funext x
  unfold upd lq tK
  split <;> rfl
theorem aB.Rz {w0 w : World} {F : HP} {b : Nat} {U : Int → List (List fJ)} (H : aB w0 w (pV b U • F)) (k : Int) : eY (U k) [] ≤ 16384 := by
  obtain ⟨D, P, h1, h2, H1⟩ := H.QJ
  by_cases hk : k ∈ D
  · have H2 := H1.QK h1 h2 hk
    obtain ⟨gv, nv, gs, now, k1, _⟩ := H2.qj
    exact k1.2.1
  · rw [h2 k hk]; decide
theorem OQ (s : bH) (on : Bool) : (s.dA on).put = [] := by
  unfold bH.dA; split
  · assumption
  · rfl
theorem Uc {t : bH} {k : Int} {l : List Int} (h : jY t) (hp : t.put = []) (hk : ¬ (k < 0 ∨ (t.hl.length : Int) < k)) (hh : t.uT.size ≤ 16384) (hu : eY (t.c.un k) [] ≤ 16384) :
    jY { t with whole := false, c := { t.c with tx := tK t.c.tx t.c.place (some t.uT), place := k, L := l, pt := l.length, mark := -1, run := false } } := by
  obtain ⟨h1, h2, h3, h4, h5, h6⟩ := h
  refine ⟨⟨by show 0 ≤ k; omega, by show k ≤ t.hl.length; omega, fun x b hb => ?_⟩, h2, h3, h4, ?_, h6⟩
  · by_cases hx : x = t.c.place
    · subst hx
      have : some t.uT = some b := (iK t.c.tx t.c.place (some t.uT)).symm.trans hb
      cases this; exact hh
    · exact h1.2.2 x b ((rM t.c.tx (some t.uT) hx).symm.trans hb)
  · show eY (t.c.un k) t.put ≤ 16384
    rw [hp]; exact hu
section
variable {w0 w : World} {F : HP} {e : Nat} {s : bH} {k : Int}
theorem BG (H : aB w0 w (dO e s • F)) (hT : rZ w0) (hR : tV s.c.L) : gG prog 38 #[.pointer (some ⟨e, 0, none⟩), .int .i64 k] w fun v w' => v = .int .i64 (s.lS k) ∧ aB w0 w' (dO e (s.uU k) • F) := by
 refine iF func38 ntmps38 ?_
 dsimp only [bg, Nat.reduceAdd]
 refine ay (ah (aW rfl (aA (aj (ay (ay (ah (aI rfl (dH rfl func81 (kR H) ?_)))))))))
 rintro _ _ ⟨rfl, rfl⟩
 refine aW rfl (aA (aj (ay (ah (aI rfl (aU (gy rfl rfl) (aA (aj (aP rfl (fun h1 => ?_) (fun h1 => ?_))))))))))
 ·(try simp only [aG] at h1)
  obtain ⟨hin, hpe⟩ := CQ h1
  refine ay (ah (aI rfl (aW rfl (aA (aj (aK (aN (aQ (.inl rfl) results38 rfl ?_))))))))
  rw [hpe]
  exact ⟨by simp [bH.lS, bH.uU, hin], by rw [show s.uU k = s from by simp [bH.lS, bH.uU, hin]]; exact H⟩
 ·(try simp only [aG] at h1)
  have hin := zD h1
  refine aO (aj (ay (ay ?_)))
  obtain ⟨qy, qA, qB, qC, qE, qF, qG, qH, oq, mM, mO, mP, mQ, mV, mW, mX, mY, mZ, ng, ni, dI, bM, ig, eH⟩ := (H).D9
  obtain ⟨hv9, hk9, _⟩ := (eH.f7).hist
  have hLl : s.c.L.length ≤ 1024 := by obtain ⟨a, c, xs, f, t, h1, h2, h3, h4, h5, h6, h7, hc1, hc2, hl, H1⟩ := (eH.f2).buf; exact h4
  have hcl := hk9.1
  refine ah (aI rfl (aU (dB rfl rfl) (iM rfl (fun h2 => ?_) (fun h2 => ?_))))
  ·(try simp only [aG] at h2)
   have hbad : k < 0 ∨ (s.hl.length : Int) < k := .inl h2
   refine aZ (aZ (aZ (aZ (aZ (aZ (aZ (fK rfl rfl (aA (aj (zM (ay (ah (aW rfl (aA (aj (aK (aN (aQ (.inl rfl) results38 rfl ?_))))))))))))))))))
   have hE : s.lS k = 6 := by unfold bH.lS; rw [if_pos hin, if_pos (by omega)]
   have KQ := eH.f11.f11.f11.f11.f11.f11.f11.f11.f11.f11.f11
   have KR := aB.dY (s := s) dI bM KQ
   exact ⟨by rw [hE], by unfold bH.uU; rw [if_neg (by rw [hE]; decide)]; exact KR⟩
  ·(try simp only [aG] at h2)
   refine aY (aI rfl (aY (aI rfl (aY (bQ rfl (aY (bC 11 underlying69 rfl sizeOf65 rfl (aY (eu underlying65 rfl (eH).get.2 rfl (aY (dH rfl func84 (jC eH.f7) ?_)))))))))))
   rintro _ w6 ⟨rfl, H6⟩
   refine aY (aU (fB rfl rfl) (fC rfl rfl (aA (aj (aP rfl (fun h3 => ?_) (fun h3 => ?_))))))
   ·(try simp only [aG] at h3)
    have abz := h3
    refine ay (ah (aW rfl (aA (aj (aK (aN (aQ (.inl rfl) results38 rfl ?_)))))))
    have hE : s.lS k = 6 := by unfold bH.lS; rw [if_pos hin, if_pos (by omega)]
    have Yf := H6.f11.f11.f11.f11.f5.f11.f11.f11.f11.f11.f11
    have WM := aB.dY (s := s) dI bM Yf
    exact ⟨by rw [hE], by unfold bH.uU; rw [if_neg (by rw [hE]; decide)]; exact WM⟩
   ·(try simp only [aG] at h3)
    have hgood : ¬ (k < 0 ∨ (s.hl.length : Int) < k) := by have h9 := h3; omega
    refine aO (aj (ay ?_))
    have hsz : (fF s.hl s.c.tx s.c.place).size ≤ 16384 := mG hk9.2.2.2.2.2 dI.1.2.2 _
    have hsk : (fF s.hl s.c.tx k).size ≤ 16384 := mG hk9.2.2.2.2.2 dI.1.2.2 _
    have Ou : s.uT.size ≤ 16384 := FX dI.1 hk9.2.2.2.2.2 hLl
    unfold bH.uT at Ou
    have hb1 := uS (yI s.hl s.c.tx s.c.place s.c.L)
    have hb2 := uS (fF s.hl s.c.tx k)
    have hb3 := jV (yI s.hl s.c.tx s.c.place s.c.L)
    have hb4 := jV (fF s.hl s.c.tx k)
    refine ah (aI rfl (dH rfl func85 (BF H6.f6.f6.f5.f5 (by assumption) (by assumption) (by assumption)) ?_))
    rintro _ w10 ⟨rfl, qL⟩
    refine iw (pO qL underlying9 underlying104 underlying5 rfl (by omega)) ?_
    rintro XK Gq sD
    refine dH rfl func51 (uQ sD (by assumption) (fun W HW => (HW).jH) (by assumption) (by omega)) ?_
    rintro Ws w12 vV
    refine aW rfl (aA (aj ?_))
    refine lT [(0, _), (1, _)] (fun (u : Value) => [(6, u)]) (fun (u : Value) W => aB w0 W (iD 21 .i32 u (s.tX k) • dO e s • F)) (Sub.cons rfl (Sub.cons rfl (Sub.nil _))) ?_ ?_
    ·rintro u O7 HJ
     dsimp only [List.cons_append, List.nil_append]
     refine ay (ay (ah (aI rfl (aU (eG ((HJ).aT) underlying23 rfl) (aU (fB rfl rfl) (aA (aj (aP rfl (fun h4 => ?_) (fun h4 => ?_)))))))))
     ·(try simp only [aG] at h4)
      have hE : s.lS k = 6 := by have h9 := h4; unfold bH.lS; rw [if_pos hin, if_neg hgood, if_pos (by omega)]
      refine ay (ah (aW rfl (aA (aj (aK (aN (aQ (.inl rfl) results38 rfl ?_)))))))
      exact ⟨by rw [hE], by unfold bH.uU; rw [if_neg (by rw [hE]; decide)]; exact HJ.right⟩
     ·(try simp only [aG] at h4)
      have hE : s.lS k = 0 := by have h9 := h4; unfold bH.lS; rw [if_pos hin, if_neg hgood, if_neg (by omega)]
      have hshort : (s.tX k).length ≤ 1024 := by have h9 := h4; omega
      refine aO (aj (ay (ah (aI rfl (dH rfl func83 (jT HJ.f2) ?_)))))
      rintro _ O8 zN
      obtain ⟨t, ht, HT⟩ : ∃ t, s.dA false = t ∧ aB w0 O8 (dO e t • iD 21 .i32 u (s.tX k) • F) := ⟨_, rfl, zN⟩
      obtain ⟨Zb, hft, hfp, hfL⟩ := LJ s false
      rw [ht] at Zb hft hfp hfL
      obtain ⟨qy, qA, qB, qC, qE, qF, qG, qH, oq, mM, mO, mP, mQ, mV, mW, mX, mY, mZ, ng, ni, dI, bM, ig, eH⟩ := (HT).D9
      have hR2 : tV t.c.L := by rw [hfL]; exact hR
      have hsz2 : (fF t.hl t.c.tx t.c.place).size ≤ 16384 := by rw [Zb, hft, hfp]; exact mG hk9.2.2.2.2.2 (hft ▸ dI.1.2.2) _
      refine aA (aj (ay ?_))
      have RD := eH.drew
      have jl := aB.kp (RD.f7.right.f11.f11.f11.f11.f11.f11.f11.f11.f11.f11.f11)
      refine wo [4, 7, 12, 15] jl rfl (gV 0 rfl jl rfl (iZ 1 rfl jl rfl (dV 2 rfl jl 0 underlying69 rfl sizeOf64 rfl (dV 3 rfl jl 2 underlying64 rfl sizeOf61 rfl (iy 4 rfl jl (fun W hW => iQ underlying61 rfl ((Kp.h hW)).get.2 rfl) (iZ 5 rfl jl rfl (dV 6 rfl jl 1 underlying125 rfl sizeOf123 rfl (iy 7 rfl jl (fun W hW => iQ underlying123 rfl ((Kp.h hW).f4).get.2 rfl) (gV 8 rfl jl rfl (iZ 9 rfl jl rfl (dV 10 rfl jl 0 underlying69 rfl sizeOf64 rfl (dV 11 rfl jl 2 underlying64 rfl sizeOf61 rfl (iy 12 rfl jl (fun W hW => iQ underlying61 rfl ((Kp.h hW)).get.2 rfl) (iZ 13 rfl jl rfl (dV 14 rfl jl 0 underlying125 rfl sizeOf3 rfl (iy 15 rfl jl (fun W hW => iQ underlying3 rfl ((Kp.h hW).f4).get.2 rfl) (gV 16 rfl jl rfl (jr 17 rfl (rX rfl func85 (BF RD.f7.f6.f6.f5.f5 (by assumption) (by assumption) (by assumption))) ?_))))))))))))))))))
      rintro _ w16 ⟨rfl, rV⟩
      have zx := aB.kp (rV.f12.f12.f12.f12.f12.f12.f12.f12.f12.f12.f12.f12)
      refine bW zx (fun W hW => (Kp.h hW).f5.right.f11.f11.f11.f11.f11.f11.f10.f10.f11.f11.f11) ?_
      refine dN 18 rfl (by kernel_rfl) (sN rV.f4 underlying123 underlying3 rfl rfl rfl) ?_
      rintro _ UF zO
      have xR := aB.kp (zO.f12.f12.f12.f12.f12.f12.f12.f12.f12.f12.f12.f12)
      refine dR xR (by kernel_rfl) ?_
      refine nJ (aj (ay (ah (aI rfl (bQ rfl (bC 0 underlying69 rfl sizeOf64 rfl (bC 2 underlying64 rfl sizeOf61 rfl (eu underlying61 rfl (zO.f2).get.2 rfl (aI rfl (bQ rfl (bC 0 underlying125 rfl sizeOf3 rfl (aJ (aS 0 (l' := [_, _]) zO.f4 sizeOf3 rfl rfl (by first | rfl | assumption) rfl rfl) ?_))))))))))))
      rintro _ Tz Bd
      refine aA (aj (ay (ah (aI rfl (aI rfl (dH rfl func87 (Ba Bd (fun W HW => (HW.f12).aT) hshort) ?_))))))
      rintro _ Sz ⟨p19, rfl, xk⟩
      refine aI rfl (wU rfl rfl (wU rfl rfl (bQ rfl (bC 0 underlying69 rfl sizeOf64 rfl (bC 0 underlying64 rfl sizeOf59 rfl (aJ (aS 0 (l' := [_, _, _, _, _, _, _, _, _, _, _, _, _, _, _, _, _, _, _, _, _, _, _, _, _, _, _, _, _, _, _, _, _, _]) xk.f4 sizeOf59 rfl rfl (by first | rfl | assumption) rfl rfl) ?_))))))
      rintro _ SA yJ
      refine aA (aj (ay (ah (aI rfl (aI rfl (bQ rfl (bC 32 underlying69 rfl sizeOf4 rfl (aJ (aS 32 (l' := [_, _, _, _, _, _, _, _, _, _, _, _, _, _, _, _, _, _, _, _, _, _, _, _, _, _, _, _, _, _, _, _, _, _]) yJ sizeOf4 rfl rfl (by first | rfl | assumption) rfl rfl) ?_))))))))
      rintro _ TA pF
      refine bQ rfl (bC 0 underlying69 rfl sizeOf64 rfl (bC 10 underlying64 rfl sizeOf4 rfl (aJ (aS 10 (l' := [_, _, _, _, _, _, _, _, _, _, _, _, _, _, _, _, _, _, _, _, _, _, _, _, _, _, _, _, _, _, _, _, _, _]) pF sizeOf4 rfl rfl (by first | rfl | assumption) rfl rfl) ?_)))
      rintro _ Xh J6
      refine aA (aj (ay (ah (aW rfl (aA (aj (aK (aQ (.inl rfl) results38 rfl ?_))))))))
      have hut := (J6.f8).Rz k
      have aaN : t.uT.size ≤ 16384 := FX dI.1 (Zb ▸ hk9.2.2.2.2.2) (by rw [hfL]; exact hLl)
      have HQ := J6.f5.right.f12.right.f11.f11.f11.f11.f9.f11.f10.f10.f11.f11.f11
      rw [Ry] at HQ
      exact ⟨by rw [hE], by unfold bH.uU; rw [if_pos hE]; dsimp only; rw [ht]; exact aB.dY (s := { t with whole := false, c := { t.c with tx := tK t.c.tx t.c.place (some t.uT), place := k, L := s.tX k, pt := (s.tX k).length, mark := -1, run := false } }) (Uc dI (ht ▸ OQ s false) (Zb ▸ hgood) aaN hut) bM HQ⟩
    ·skip
     refine ay (ah (aI rfl (aI rfl (bQ rfl (bC 0 underlying69 rfl sizeOf64 rfl (bC 2 underlying64 rfl sizeOf61 rfl (eu underlying61 rfl (vV.f3).get.2 rfl (bQ rfl (bC 0 underlying125 rfl sizeOf3 rfl (eu underlying3 rfl (vV.f5).get.2 rfl (aU (gy rfl rfl) (aA (aj (aP rfl (fun h5 => ?_) (fun h5 => ?_)))))))))))))))
     ·(try simp only [aG] at h5)
      have hkp : ¬ k = s.c.place := h5
      refine ah (aI rfl (aI rfl (dH rfl func86 (lN vV.f7.f7.f7.f6) ?_)))
      rintro _ PZ ⟨rfl, vY⟩
      refine iw (pO vY underlying9 underlying104 underlying5 rfl (by omega)) ?_
      rintro l24 YP SB
      refine dH rfl func51 (uQ SB (by assumption) (fun W HW => (HW).jH) (by assumption) (by omega)) ?_
      rintro u25 Xi IZ
      refine aW rfl ?_
      have aaO := IZ.f15.f15.f15.f15.f10.f15.f11.f11.f15.f15.f13
      have YC := aB.dY (s := s) dI bM aaO
      refine aA ?_
      refine bF (_) (Sub.cons rfl (Sub.nil _)) (Sub.cons rfl (Sub.cons rfl (Sub.nil _))) (by (try dsimp only); exact by unfold bH.tX; first | (rw [if_pos hkp]; exact YC.f3.right.f3.right.f3.right.f2) | (rw [if_neg hkp]; exact YC.f3.right.f3.right.f3.right.f2))
     ·(try simp only [aG] at h5)
      have hkp : k = s.c.place := by have h9 := h5; simpa using h9
      have aaP := vV.f13.f13.f13.f13.f11.f13.f12.f12.f13.f13.f13
      have YD := aB.dY (s := s) dI bM aaP
      refine aO ?_
      refine bF (_) (Sub.cons rfl (Sub.nil _)) (Sub.cons rfl (Sub.cons rfl (Sub.nil _))) (by (try dsimp only); exact by unfold bH.tX; first | (rw [if_pos hkp]; exact YD.f3.right.f2) | (rw [if_neg hkp]; exact YD.f3.right.f2))
end
end Go.Proofs.YtddekefihgejoaaGreatDoor
end
section
namespace Go.Proofs.YtddekefihgejoaaGreatDoor
open Go.RowKit Go.Lib
section
variable {P : Program} {N : Sh} {Q : Exit → Act → World → Prop} {L : List (Nat × Value)} {w : World}
theorem NP.noGoto (h : NP Q) : NP (Exit.noGoto Q) := fun c a w => h c a w
theorem RF {c : Code} (h : WC P N c (Exit.noGoto Q) L w) (hr : N.ro = none := by rfl) : WC P N (.scope c) Q L w := fun np a ha => by
  have h1 := h np.noGoto a ha
  rw [hr] at h1 ⊢
  exact wpIn_wide.2 (wp_scope_straight (wpIn_wide.1 h1))
theorem RG {l : Nat} (h : WQ N Q .normal L w) : WC P N (.label l) Q L w := fun np a ha => wpIn_label (h np a ha)
theorem lu (h : WQ N Q .ret L w) : WQ N (Exit.noGoto Q) .ret L w := fun np a ha => h (fun c a w => np c a w) a ha
end
def sb (s : ByteArray) (i : Nat) : Int := ((s.data.toList.getD i 0).toNat : Nat)
section
variable {P : Program} {L : List (Nat × Value)} {w w0 : World} {ty : TypeId} {x y : Operand} {F : HP}
def abA (s : ByteArray) (k : Nat) : Value := if k < s.size then .tuple #[.bool true, .int .i64 k, .int .i32 (sb s k)] else .tuple #[.bool false]
end
end Go.Proofs.YtddekefihgejoaaGreatDoor
end
