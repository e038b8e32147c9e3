import Derived.Test.YtgndbccogcofjaaGreatDoorZ2
import Derived.Test.YtgndbccogcofjaaGreatDoorZ16
import Derived.Test.YtgndbccogcofjaaGreatDoorZ17
import Derived.Test.YtgndbccogcofjaaGreatDoorZ14
import Derived.Test.YtgndbccogcofjaaGreatDoorZ12
import Derived.Test.YtgndbccogcofjaaGreatDoorZ10
set_option linter.unusedSimpArgs false
set_option linter.unusedVariables false
/- Texts of mine, joined, their names in short: EmD EdSt HistF ETyM ETyM2 EKillM EmMade FieldVal. -/
section
namespace Go.Proofs.YtgndbccogcofjaaGreatDoor
open Go.RowKit
open _root_.Go.Proofs.Tryz
def Ue : ByteArray := ⟨#[113, 117, 111, 116, 101, 100, 45, 105, 110, 115, 101, 114, 116]⟩
def Uf : ByteArray := ⟨#[99, 104, 97, 114, 97, 99, 116, 101, 114, 45, 115, 101, 97, 114, 99, 104]⟩
def J9 : ByteArray := ⟨#[99, 104, 97, 114, 97, 99, 116, 101, 114, 45, 115, 101, 97, 114, 99, 104, 45, 98, 97, 99, 107, 119, 97, 114, 100]⟩
def Es (n : ByteArray) : Prop := n.toList = Ue.toList ∨ n.toList = Uf.toList ∨ n.toList = J9.toList
instance (n : ByteArray) : Decidable (Es n) := by unfold Es; infer_instance
def oz (n : ByteArray) (k : Nat) : Int := if yM ((wP n).getD .nilFunc) = true then -1 else if k = 0 ∨ (Es n ∧ k = 1) then 1 else 0
theorem xJ {n : ByteArray} {k : Nat} (h : yM ((wP n).getD .nilFunc) = false) (hd : k = 0 ∨ (Es n ∧ k = 1)) : oz n k = 1 := by unfold oz; rw [if_neg (by rw [h]; decide), if_pos hd]
theorem oC {n : ByteArray} {k : Nat} (h : yM ((wP n).getD .nilFunc) = false) (hd : ¬ (k = 0 ∨ (Es n ∧ k = 1))) : oz n k = 0 := by unfold oz; rw [if_neg (by rw [h]; decide), if_neg hd]
def Ko (w0 : World) (fv : Value) (keys : List Int) (s : bC) (x : Int) (t : bC) : Prop := ∀ (F : HP) (W : World) (c e : Nat) (lv kv : Value), aB w0 W (dH c (.cells #[.pointer (some ⟨e, 0, none⟩), lv, .int .i64 s.c.pt, .int .i64 s.c.mark, .int .i64 s.count, .bool s.given, kv] 79 (0, 0)) • gW 21 .i32 lv s.c.L • dA e s • F) → iI w0 F .i32 kv keys →
  FU prog fv [.pointer (some ⟨c, 0, none⟩)] W fun v W' => v = .int .i64 x ∧ aB w0 W' (dH c (.cells #[.pointer (some ⟨e, 0, none⟩), lv, .int .i64 s.c.pt, .int .i64 s.c.mark, .int .i64 s.count, .bool s.given, kv] 79 (0, 0)) • gW 21 .i32 lv s.c.L • dA e t • F)
section
variable {w0 w : World} {F : HP} {e k : Nat} {s t : bC} {kv : Value} {keys : List Int} {name : ByteArray} {x : Int}
theorem IG (H : aB w0 w F) (q1 : iI w0 F .i32 kv keys) : fG prog 14 #[.string name, kv] w fun v w' => v = .int .i64 (oz name keys.length) ∧ aB w0 w' F := by
 have hcv := XR name
 refine gG func14 ntmps14 ?_
 dsimp only [bf, Nat.reduceAdd]
 refine ay (ah (aV rfl (aA (aj (ay (ay (ah (bW rfl func25 (zq H) ?_))))))))
 rintro _ w1 ⟨bM1, rfl, H1⟩
 refine aN rfl (aU (Di (H1) underlying72 underlying9 zeroValue71 rfl rfl) ?_)
 have Hd2 := H1.right
 refine aU (Dl underlying71 rfl rfl (by assumption)) ?_
 refine aA (aj (aP rfl (fun h1 => ?_) (fun h1 => ?_)))
 ·(try simp only [aF] at h1)
  have hc := h1
  refine ay (ah (aV rfl (aA (aj (aI (aK (aH (.inl rfl) results14 rfl ?_)))))))
  exact ⟨by unfold oz; rw [if_pos hc], Hd2⟩
 ·(try simp only [aF] at h1)
  have hc := h1
  refine aO (aj (ay (ah (aN rfl (aU (xB rfl rfl) (eP rfl (fun h2 => ?_) (fun h2 => ?_)))))))
  ·(try simp only [aF] at h2)
   refine bD (bD (fP rfl rfl (aN rfl (bD (bD (fP rfl rfl (aV rfl (aA (aj (ay (ay (ah (aN rfl (aU (jC (q1 _ (Hd2)) underlying22 rfl) (aU (fE rfl rfl) (eP rfl (fun h3 => ?_) (fun h3 => ?_)))))))))))))))))
   ·(try simp only [aF] at h3)
    refine bD (bD (iQ (iQ (iQ (bD (fP rfl rfl (aA (aj (wK (ay (ah (aV rfl (aA (aj (aI (aK (aH (.inl rfl) results14 rfl ?_)))))))))))))))))
    exact ⟨by rw [xJ hc (by first | exact .inl (by omega) | exact .inr ⟨.inl (by assumption), by omega⟩ | exact .inr ⟨.inr (.inl (by assumption)), by omega⟩ | exact .inr ⟨.inr (.inr (by assumption)), by omega⟩)], Hd2⟩
   ·(try simp only [aF] at h3)
    refine aX (aN rfl (aX (aN rfl (aX (aN rfl (aX (aU (jC (q1 _ (Hd2)) underlying22 rfl) (aX (aU (fE rfl rfl) (aX (fP rfl rfl (dL rfl rfl (aA (aj (aP rfl (fun h4 => ?_) (fun h4 => ?_))))))))))))))))
    ·(try simp only [aF] at h4)
     have hd := h4
     refine ay (ah (aV rfl (aA (aj (aI (aK (aH (.inl rfl) results14 rfl ?_)))))))
     exact ⟨by rw [xJ hc (by first | exact .inl (by omega) | exact .inr ⟨.inl (by assumption), by omega⟩ | exact .inr ⟨.inr (.inl (by assumption)), by omega⟩ | exact .inr ⟨.inr (.inr (by assumption)), by omega⟩)], Hd2⟩
    ·(try simp only [aF] at h4)
     have hd := h4
     refine aO (aj (ay (ah (aV rfl (aA (aj (aI (aH (.inl rfl) results14 rfl ?_))))))))
     exact ⟨by rw [oC hc (by rintro (h9 | ⟨h9 | h9 | h9, h8⟩) <;> first | omega | exact absurd h9 (by assumption))], Hd2⟩
  ·(try simp only [aF] at h2)
   refine aX (aN rfl (aX (aU (xB rfl rfl) (dL rfl rfl (eP rfl (fun h5 => ?_) (fun h5 => ?_))))))
   ·(try simp only [aF] at h5)
    refine bD (bD (fP rfl rfl (aV rfl (aA (aj (ay (ay (ah (aN rfl (aU (jC (q1 _ (Hd2)) underlying22 rfl) (aU (fE rfl rfl) (eP rfl (fun h6 => ?_) (fun h6 => ?_)))))))))))))
    ·(try simp only [aF] at h6)
     refine bD (bD (iQ (iQ (iQ (bD (fP rfl rfl (aA (aj (wK (ay (ah (aV rfl (aA (aj (aI (aK (aH (.inl rfl) results14 rfl ?_)))))))))))))))))
     exact ⟨by rw [xJ hc (by first | exact .inl (by omega) | exact .inr ⟨.inl (by assumption), by omega⟩ | exact .inr ⟨.inr (.inl (by assumption)), by omega⟩ | exact .inr ⟨.inr (.inr (by assumption)), by omega⟩)], Hd2⟩
    ·(try simp only [aF] at h6)
     refine aX (aN rfl (aX (aN rfl (aX (aN rfl (aX (aU (jC (q1 _ (Hd2)) underlying22 rfl) (aX (aU (fE rfl rfl) (aX (fP rfl rfl (dL rfl rfl (aA (aj (aP rfl (fun h7 => ?_) (fun h7 => ?_))))))))))))))))
     ·(try simp only [aF] at h7)
      have hd := h7
      refine ay (ah (aV rfl (aA (aj (aI (aK (aH (.inl rfl) results14 rfl ?_)))))))
      exact ⟨by rw [xJ hc (by first | exact .inl (by omega) | exact .inr ⟨.inl (by assumption), by omega⟩ | exact .inr ⟨.inr (.inl (by assumption)), by omega⟩ | exact .inr ⟨.inr (.inr (by assumption)), by omega⟩)], Hd2⟩
     ·(try simp only [aF] at h7)
      have hd := h7
      refine aO (aj (ay (ah (aV rfl (aA (aj (aI (aH (.inl rfl) results14 rfl ?_))))))))
      exact ⟨by rw [oC hc (by rintro (h9 | ⟨h9 | h9 | h9, h8⟩) <;> first | omega | exact absurd h9 (by assumption))], Hd2⟩
   ·(try simp only [aF] at h5)
    refine aX (aN rfl (aX (aU (xB rfl rfl) (dL rfl rfl (aV rfl (aA (aj (ay (ay (ah (aN rfl (aU (jC (q1 _ (Hd2)) underlying22 rfl) (aU (fE rfl rfl) (eP rfl (fun h8 => ?_) (fun h8 => ?_)))))))))))))))
    ·(try simp only [aF] at h8)
     refine bD (bD (iQ (iQ (iQ (bD (fP rfl rfl (aA (aj (wK (ay (ah (aV rfl (aA (aj (aI (aK (aH (.inl rfl) results14 rfl ?_)))))))))))))))))
     exact ⟨by rw [xJ hc (by first | exact .inl (by omega) | exact .inr ⟨.inl (by assumption), by omega⟩ | exact .inr ⟨.inr (.inl (by assumption)), by omega⟩ | exact .inr ⟨.inr (.inr (by assumption)), by omega⟩)], Hd2⟩
    ·(try simp only [aF] at h8)
     refine aX (aN rfl (aX (eP rfl (fun h9 => ?_) (fun h9 => ?_))))
     ·(try simp only [aF] at h9)
      refine aX (aN rfl (aX (aU (jC (q1 _ (Hd2)) underlying22 rfl) (aX (aU (fE rfl rfl) (aX (fP rfl rfl (dL rfl rfl (aA (aj (aP rfl (fun h10 => ?_) (fun h10 => ?_))))))))))))
      ·(try simp only [aF] at h10)
       have hd := h10
       refine ay (ah (aV rfl (aA (aj (aI (aK (aH (.inl rfl) results14 rfl ?_)))))))
       exact ⟨by rw [xJ hc (by first | exact .inl (by omega) | exact .inr ⟨.inl (by assumption), by omega⟩ | exact .inr ⟨.inr (.inl (by assumption)), by omega⟩ | exact .inr ⟨.inr (.inr (by assumption)), by omega⟩)], Hd2⟩
      ·(try simp only [aF] at h10)
       have hd := h10
       refine aO (aj (ay (ah (aV rfl (aA (aj (aI (aH (.inl rfl) results14 rfl ?_))))))))
       exact ⟨by rw [oC hc (by rintro (h9 | ⟨h9 | h9 | h9, h8⟩) <;> first | omega | exact absurd h9 (by assumption))], Hd2⟩
     ·(try simp only [aF] at h9)
      refine bD (bD (bD (aX (dL rfl rfl (dL rfl rfl (aA (aj (mO (aO (aj (ay (ah (aV rfl (aA (aj (aI (aH (.inl rfl) results14 rfl ?_)))))))))))))))))
      exact ⟨by rw [oC hc (by rintro (h9 | ⟨h9 | h9 | h9, h8⟩) <;> first | omega | exact absurd h9 (by assumption))], Hd2⟩
theorem dh {fv : Value} (H : aB w0 w (dA e s • F)) (hi : s.dU = false) (q1 : iI w0 F .i32 kv keys) (hn : wP name = some fv) (hw : oz name keys.length = 0) (hf : Ko w0 fv keys s.aW x t) :
  fG prog 11 #[.pointer (some ⟨e, 0, none⟩), .string name, kv] w fun v w' => v = .int .i64 (t.mG x) ∧ aB w0 w' (dA e (t.iE x) • F) := by
 have hcv := XR name
 have hnn : yM ((wP name).getD .nilFunc) = false := by obtain ⟨k, -, rfl⟩ := FZ hn; rw [hn]; rfl
 refine gG func11 ntmps11 ?_
 dsimp only [bf, Nat.reduceAdd]
 refine ay (ah (aV rfl (aA (aj (ay (ay (ah (aN rfl (bW rfl func24 (Fv H (by assumption)) ?_)))))))))
 rintro _ w1 ⟨cl1, rfl, H1⟩
 refine aU (iq underlying26 rfl rfl) (aA (aj (aP rfl (fun h => by exfalso; (try simp only [aF] at h); simp at h) (fun h1 => ?_))))
 (try simp only [aF] at h1)
 refine aO (aj (ay (ah (bW rfl func25 (zq H1) ?_))))
 rintro _ w2 ⟨bM2, rfl, H2⟩
 refine aN rfl (aU (Di (H2) underlying72 underlying9 zeroValue71 rfl rfl) ?_)
 have YV := H2.right
 refine aV rfl (aA (aj (ay (ay (ah (aN rfl ?_))))))
 refine aU (Dl underlying71 rfl rfl (by assumption)) ?_
 refine aA (aj (aP rfl (fun h => by exfalso; (try simp only [aF] at h); rw [hnn] at h; simp at h) (fun h2 => ?_)))
 (try simp only [aF] at h2)
 refine aO (aj (ay (ay (ah (aN rfl (aN rfl (bW rfl func14 (IG YV (fun W HW => q1 _ (HW.right))) ?_)))))))
 rintro _ w4 ⟨rfl, H4⟩
 refine aU (bY rfl rfl) (aA (aj (aP rfl (fun h => by exfalso; (try simp only [aF] at h); exact h hw) (fun h3 => ?_))))
 (try simp only [aF] at h3)
 refine aO (aj (ay (ay (ah (aN rfl (bW rfl func26 (zM H4) ?_))))))
 rintro _ w5 ⟨rfl, H5⟩
 refine aV rfl (aA (aj (ay (ah (aN rfl (aU (bY rfl rfl) (aA (aj (aP rfl (fun h => by exfalso; (try simp only [aF] at h); exact h (by unfold bC.Ap; rw [if_neg (by simp [hi])])) (fun h4 => ?_))))))))))
 (try simp only [aF] at h4)
 refine aO (aj (ay (ah (aN rfl (bW rfl func21 (dN H5) ?_)))))
 rintro _ w6 ⟨u6, rfl, H6⟩
 refine iy (gY (l := [_, _, _]) H6 zeroValue53 rfl) ?_
 rintro _ w7 ⟨b7, rfl, H7⟩
 refine aJ (dG 0 (l' := [_, _, _]) (us := [_, _, _]) H7 sizeOf53 rfl rfl rfl (aC (by first | rfl | exact Rd.one ((H7.f2).aS)) (aC (by first | rfl | assumption) (aC (by first | rfl | assumption) cZ))) rfl rfl) ?_
 rintro _ w8 H8
 refine aA (aj (ay ?_))
 have Vd := H8.drew
 have qc := aB.kp (Vd.f3.right.f2.f2)
 refine yI [4, 6, 8] qc rfl (iD 0 rfl qc rfl (iD 1 rfl qc rfl (iD 2 rfl qc rfl (gV 3 rfl qc 0 underlying53 rfl sizeOf22 rfl (jB 4 rfl qc (fun W hW => jR underlying22 rfl ((Kp.h hW)).get.2 rfl) (gV 5 rfl qc 1 underlying53 rfl sizeOf3 rfl (jB 6 rfl qc (fun W hW => jR underlying3 rfl ((Kp.h hW)).get.2 rfl) (gV 7 rfl qc 2 underlying53 rfl sizeOf3 rfl (jB 8 rfl qc (fun W hW => jR underlying3 rfl ((Kp.h hW)).get.2 rfl) (iD 9 rfl qc rfl (iD 11 rfl qc rfl (iD 13 rfl qc rfl (kQ 10 rfl (wJ rfl func28 (Iu Vd.f3)) ?_)))))))))))))
 rintro _ w9 ⟨rfl, H9⟩
 have Lm := aB.kp (H9.right.f2.f2)
 refine dZ Lm (fun W hW => (Kp.h hW).f2.f2) ?_
 refine kQ 12 rfl (wJ rfl func29 (Iw H9)) ?_
 rintro _ w10 ⟨rfl, oZ⟩
 have Gf := aB.kp (oZ.f3.f3.f3)
 refine dZ Gf (fun W hW => (Kp.h hW).right.f2.f2) ?_
 refine jr 14 rfl Gf (fun _ => fM (zl := [.pointer none, .slice none 0 0, .int .i64 0, .int .i64 0, .int .i64 0, .bool false, .slice none 0 0]) (pl := [(0, 1), (1, 1), (2, 1), (3, 1), (4, 1), (5, 1), (6, 1)]) [_, _, _, _, _, _, _] underlying79 zeroValue79 rfl (fun w => by kernel_rfl) rfl (.one (by first | rfl | assumption) (.one (Rd.one ((oZ.f3).aS)) (.one (by first | rfl | assumption) (.one (by first | rfl | assumption) (.one (by first | rfl | assumption) (.one (by first | rfl | assumption) (.one (Rd.one (q1 _ (oZ.right.right.right))) .nil))))))) rfl) ?_
 refine kQ 15 rfl (jo (l := [_, _, _, _, _, _, _]) oZ rfl rfl) ?_
 rintro _ KG ⟨b11, rfl, yt⟩
 have F9 := aB.kp (yt.f4.f4.f4.f4)
 refine gB F9 (by kernel_rfl) ?_
 refine kQ 16 rfl (pI rfl rfl ((by rw [hn]; exact hf _ _ _ _ _ _ yt.f3.right.f2.f3.f3 q1))) ?_
 rintro _ w12 ⟨rfl, xR⟩
 have zF := aB.kp (xR.f3.f3.f3)
 refine gB zF (by kernel_rfl) ?_
 refine kQ 17 rfl (wJ rfl func27 (Ep xR.f3)) ?_
 rintro _ Po ⟨rfl, xE⟩
 have yw := aB.kp (xE.f3.f3.f3)
 refine gB yw (by kernel_rfl) ?_
 refine jr 18 rfl yw (fun _ => eH rfl) (qQ (aj (aI (aH (.inl rfl) results11 rfl ?_))))
 exact ⟨rfl, xE.f2.right.f2.right⟩
end
end Go.Proofs.YtgndbccogcofjaaGreatDoor
end
section
namespace Go.Proofs.YtgndbccogcofjaaGreatDoor
open Go.RowKit
open _root_.Go.Proofs.Tryz
def bC.uo (s : bC) (l : List Int) : Int := if s.dU then 1 else if 1024 < l.length then 3 else 0
def bC.II (s : bC) (hl : List qO) (base most : Int) (l : List Int) : bC := if s.uo l = 0 then s.start hl base most l else s
theorem Rj {s : bC} (h : kP s) (hi : s.dU = false) (hl : List qO) (base most : Int) (l : List Int) : kP (s.start hl base most l) := by
  obtain ⟨h1, h2, h3, h4, h5, h6⟩ := h
  refine ⟨JV _ _ _ _ _, fun h => absurd (show s.dU = true from h) (by rw [hi]; decide), ⟨by show (-1 : Int) ≤ -1; decide, by show (-1 : Int) ≤ 1000000; decide⟩, h4, ?_, by simp [bC.start, lY.fresh]⟩
  show eY [] s.put ≤ 16384
  unfold eY at *; simp at *; omega
section
variable {w0 w : World} {F : HP} {e p h pr : Nat} {s : bC} {hl : List qO} {base most m : Int} {v : Value} {l : List Int}
theorem IJ (H : aB w0 w (dA e s • fU h hl base most • F)) (hr : iI w0 F .i32 v l) : fG prog 41 #[.pointer (some ⟨e, 0, none⟩), .pointer (some ⟨h, 0, none⟩), v] w fun v' w' =>
  v' = .int .i64 (s.uo l) ∧ aB w0 w' (dA e (s.II hl base most l) • fU h hl base most • F) := by
 unfold bC.II
 refine gG func41 ntmps41 ?_
 dsimp only [bf, Nat.reduceAdd]
 refine ay (ah (aV rfl (aA (aj (ay (bF (ay (ah (aN rfl (bW rfl func32 (lD H) ?_))))))))))
 rintro _ _ ⟨rfl, rfl⟩
 refine aN rfl (aX (aN rfl (aX (bW rfl func45 (oh H.f2) ?_))))
 rintro _ w2 ⟨q2, rfl, H2⟩
 refine aX (aU (iq underlying33 rfl rfl) (dL rfl rfl (aV rfl (aA (aj (aP rfl (fun h => by exfalso; (try simp only [aF] at h); simp at h) (fun h1 => ?_)))))))
 (try simp only [aF] at h1)
 refine ay ?_
 have YV := H2.right
 obtain ⟨su, sD, sF, sG, sH, sJ, sK, sN, qI, oI, oJ, oK, oL, oM, oN, oO, oP, oQ, oU, oV, dK, bH, gZ, dO⟩ := (YV.f2).BQ
 refine ah (aN rfl (bM rfl (bG 16 underlying37 rfl sizeOf4 rfl (dX underlying4 rfl (dO).get.2 rfl (aV rfl (aA (aj (aP rfl (fun h2 => ?_) (fun h2 => ?_)))))))))
 ·(try simp only [aF] at h2)
  have hin := h2
  have hE : s.uo l = 1 := by unfold bC.uo; rw [if_pos hin]
  refine ay (ah (aV rfl (aA (aj (aI (aY (aK (aH (.inl rfl) results41 rfl ?_))))))))
  have V5 := dO.f11.f11.f11.f11.f11.f11.f11.f11.f11.f11.f11
  have V6 := aB.dM (s := s) dK bH V5
  exact ⟨by rw [hE], by rw [if_neg (by rw [hE]; decide)]; exact V6.f2.f2⟩
 ·(try simp only [aF] at h2)
  have hin : s.dU = false := by simpa using h2
  refine ay (ah (aN rfl (aU (jC (hr _ (dO.right.right.right.right.right.right.right.right.right.right.right.right)) underlying22 rfl) (aU (dF rfl rfl) (aV rfl (aA (aj (aP rfl (fun h3 => ?_) (fun h3 => ?_)))))))))
  ·(try simp only [aF] at h3)
   have hbig := h3
   have hE : s.uo l = 3 := by unfold bC.uo; rw [if_neg (by simp [hin]), if_pos (by omega)]
   refine ay (ah (aV rfl (aA (aj (aI (aY (aK (aH (.inl rfl) results41 rfl ?_))))))))
   have Ho9 := dO.f11.f11.f11.f11.f11.f11.f11.f11.f11.f11.f11
   have abh := aB.dM (s := s) dK bH Ho9
   exact ⟨by rw [hE], by rw [if_neg (by rw [hE]; decide)]; exact abh.f2.f2⟩
  ·(try simp only [aF] at h3)
   have hE : s.uo l = 0 := by unfold bC.uo; rw [if_neg (by simp [hin]), if_neg (by have h9 := h3; omega)]
   have hsh : l.length ≤ 1024 := by have h9 := h3; omega
   refine aO (aQ (aj (ay (ah (aN rfl (aN rfl (aN rfl (bW rfl func110 (yE (E := s.c.E) (a := s.c.at_) dO.f2.right.f3.right.f3.right.f3.right.f3.right.f6.f6.f6.f6.f6.f7.f7 (fun W HW => hr W HW.right.right.right.right.right) hsh) ?_))))))))
   rintro _ KG ⟨qb, qw, qt, qm, qh, yt⟩
   refine aA (aj (ay (ah (aV rfl (aA (aj (aI (aH (.inl rfl) results41 rfl ?_))))))))
   exact ⟨by rw [hE], by rw [if_pos hE]; exact aB.dM (s := s.start hl base most l) (Rj dK hin _ _ _ _) bH yt.f7.f12.f12.f12.f12.f11.f11.f11.f11.f12.f12.f12⟩
end
end Go.Proofs.YtgndbccogcofjaaGreatDoor
end
section
namespace Go.Proofs.YtgndbccogcofjaaGreatDoor
open Go.RowKit
open _root_.Go.Proofs.Tryz
def xY (l : List qO) : Int := if l.any (fun x => decide (16384 < x.1.size)) then 3 else if l.any (fun x => decide (x.2 < 0)) then 1 else 0
theorem Rk {l : List qO} {k : Nat} (hk : k < l.length) : l.getD k default ∈ l := by rw [List.getD_eq_getElem?_getD, List.getElem?_eq_getElem hk]; exact List.getElem_mem hk
theorem Rl {l : List qO} {p : qO → Prop} (h : ∀ k, k < l.length → p (l.getD k default)) : ∀ x ∈ l, p x := by
  intro x hx
  obtain ⟨k, hk, rfl⟩ := List.getElem_of_mem hx
  have := h k hk
  rwa [List.getD_eq_getElem?_getD, List.getElem?_eq_getElem hk] at this
theorem O6 {l : List qO} {k : Nat} (hk : k < l.length) (h : (16384 : Int) < (l.getD k default).1.size) : xY l = 3 := by
  unfold xY
  rw [if_pos (List.any_eq_true.2 ⟨_, Rk hk, decide_eq_true (by omega)⟩)]
theorem Et {l : List qO} (h1 : ∀ k, k < l.length → ¬ (16384 : Int) < (l.getD k default).1.size) : xY l = if l.any (fun x => decide (x.2 < 0)) then 1 else 0 := by
  unfold xY
  rw [if_neg]
  intro c
  obtain ⟨x, hx, hd⟩ := List.any_eq_true.1 c
  have := Rl (p := fun x => ¬ (16384 : Int) < x.1.size) h1 x hx
  simp at hd; omega
theorem Rn {l : List qO} (h1 : ∀ k, k < l.length → ¬ (16384 : Int) < (l.getD k default).1.size) {k : Nat} (hk : k < l.length) (h : (l.getD k default).2 < 0) : xY l = 1 := by
  rw [Et h1, if_pos (List.any_eq_true.2 ⟨_, Rk hk, by simpa using h⟩)]
theorem Ug {l : List qO} (h1 : ∀ k, k < l.length → ¬ (16384 : Int) < (l.getD k default).1.size) (h2 : ∀ k, k < l.length → ¬ (l.getD k default).2 < 0) : xY l = 0 := by
  rw [Et h1, if_neg]
  intro c
  obtain ⟨x, hx, hd⟩ := List.any_eq_true.1 c
  exact Rl (p := fun x => ¬ x.2 < 0) h2 x hx (by simpa using hd)
theorem Ro {l : List qO} (h : xY l = 0) : ∀ x ∈ l, Yj x := by
  intro x hx
  unfold xY at h
  split at h
  · simp at h
  · rename_i h1
    split at h
    · simp at h
    · rename_i h2
      simp only [List.any_eq_true, not_exists, not_and, decide_eq_true_eq] at h1 h2
      exact ⟨by have := h1 x hx; omega, by have := h2 x hx; omega⟩
theorem NT (l : List qO) (n : Nat) : (l.flatMap nJ).drop (n * 2) = (l.drop n).flatMap nJ := by
  induction l generalizing n with
  | nil => simp
  | cons x l ih =>
    cases n with
    | zero => simp
    | succ n => rw [show (n + 1) * 2 = n * 2 + 2 from by omega, List.flatMap_cons, List.drop_succ_cons, ← ih n]; simp [nJ, List.drop_append]
theorem Uh (l : List qO) : (l.flatMap nJ).length = l.length * 2 := by induction l with
  | nil => rfl
  | cons x l ih => rw [List.flatMap_cons, List.length_append, ih, Am, List.length_cons]; omega
theorem Ui {W : World} {v : Value} {l : List qO} {n : Nat} (h : Rd W 2 v l.length (l.flatMap nJ)) (hn : n ≤ l.length) : Rd W 2 (ni 2 n l.length v) (l.drop n).length ((l.drop n).flatMap nJ) := by
  have h1 := h.cut hn (Nat.le_refl _)
  rw [List.take_of_length_le (by rw [NT, Uh]; simp), NT] at h1
  rwa [List.length_drop]
section
variable {P : Program} {L : List (Nat × Value)} {w0 w : World} {F : HP} {p : Nat} {hl l : List qO} {base most : Int} {v : Value}
theorem IK (H : aB w0 w F) (hv : KF w0 F 2 v l.length (l.flatMap nJ)) (hb : l.length ≤ 35184372087808) : fG prog 182 #[v] w fun v' w' => v' = .int .i64 (xY l) ∧ aB w0 w' F := by
 refine gG func182 ntmps182 ?_
 dsimp only [bf, Nat.reduceAdd]
 refine ay (ah (aV rfl (aA (aj (ay (ay (ah (aN rfl (aU (jg (hv _ (H)) underlying47 rfl) (aN rfl (aA (aj (bF ?_)))))))))))))
 refine gQ [(0, _), (7, _), (8, _)] (fun (k : Nat) => [(9, .int .i64 (k : Int))]) (fun (k : Nat) W => (k ≤ l.length ∧ ∀ i, i < k → ¬ (16384 : Int) < (l.getD i default).1.size) ∧ aB w0 W F) (fun (k : Nat) => l.length - k) (0) (Sub.cons rfl (Sub.cons rfl (Sub.cons rfl (Sub.nil _)))) (Sub.cons rfl (Sub.nil _)) ⟨⟨by omega, fun i hi => absurd hi (by omega)⟩, H⟩ ?_
 rintro k w1 ⟨⟨hk, hsh⟩, HL⟩
 dsimp only [List.cons_append, List.nil_append]
 refine ay (ah (aU (eF rfl rfl) (aA (aj (ay (aP rfl (fun h1 => ?_) (fun h1 => ?_)))))))
 ·(try simp only [aF] at h1)
  refine aO (aj (ay (bF (ay ?_))))
  have hkl : k < l.length := by omega
  refine ah ?_
  obtain ⟨bv, ov, cv, ev⟩ := Rd.zn (hv _ (HL)) (by omega)
  cases ev
  refine aU (gX underlying47 sizeOf128 rfl rfl (by omega)) (aU (lq (ys := [_, _]) (hv _ (HL)) (by omega) underlying128 rfl sizeOf128 rfl (pV Am (by omega) default) rfl) (iy (gY (l := [_, _]) HL zeroValue128 rfl) ?_))
  rintro _ w2 ⟨b2, rfl, H2⟩
  refine aJ (dG 0 (l' := [_, _]) (us := [_, _]) H2 sizeOf128 rfl rfl rfl (aC (by first | rfl | assumption) (aC (by first | rfl | assumption) cZ)) rfl rfl) ?_
  rintro _ w3 H3
  refine aA (aj (ay (ah (bG 0 underlying128 rfl sizeOf9 rfl (dX underlying9 rfl (H3).get.2 rfl (aU (Ol underlying9 rfl) (aU (dF rfl rfl) (aA (aj (aP rfl (fun h2 => ?_) (fun h2 => ?_)))))))))))
  ·(try simp only [aF] at h2)
   have hkb := h2
   refine ay (ah (aV rfl (aA (aj (aI (aY (aK (aK (aY (aK (aH (.inl rfl) results182 rfl ?_)))))))))))
   exact ⟨by rw [O6 hkl hkb], H3.right⟩
  ·(try simp only [aF] at h2)
   have hks : ¬ (16384 : Int) < (l.getD k default).1.size := by have h9 := h2; omega
   refine aO (aQ (aj (ah (aU (fC rfl rfl (by omega)) (aN rfl (aA ?_))))))
   refine eG (k + 1) ?_ ?_ ?_ ?_
   ·exact (Sub.cons rfl (Sub.nil _))
   ·exact (Sub.cons rfl (Sub.cons rfl (Sub.cons rfl (Sub.nil _))))
   ·(try dsimp only)
    first | done | exact ⟨⟨by omega, fun i hi => (show i < k ∨ i = k from by omega).elim (hsh i) (fun c => c ▸ hks)⟩, H3.right⟩
   ·(try dsimp only); omega
 ·(try simp only [aF] at h1)
  refine eU (aZ (aZ (bK (aj (ay (ay ?_))))))
  obtain rfl : k = l.length := by omega
  refine ah (aN rfl (aU (jg (hv _ (HL)) underlying47 rfl) (aN rfl (aA (aj (bF ?_))))))
  refine gQ [(18, _), (19, _)] (fun (k2 : Nat) => [(20, .int .i64 (k2 : Int))]) (fun (k2 : Nat) W => (k2 ≤ l.length ∧ ∀ i, i < k2 → ¬ (l.getD i default).2 < 0) ∧ aB w0 W F) (fun (k2 : Nat) => l.length - k2) (0) (Sub.cons rfl (Sub.cons rfl (Sub.nil _))) (Sub.cons rfl (Sub.nil _)) ⟨⟨by omega, fun i hi => absurd hi (by omega)⟩, HL⟩ ?_
  rintro k2 w4 ⟨⟨hk2, hpo⟩, HL2⟩
  dsimp only [List.cons_append, List.nil_append]
  refine ay (ah (aU (eF rfl rfl) (aA (aj (ay (aP rfl (fun h3 => ?_) (fun h3 => ?_)))))))
  ·(try simp only [aF] at h3)
   refine aO (aj (ay (bF (ay ?_))))
   have hkl2 : k2 < l.length := by omega
   refine ah ?_
   obtain ⟨bv, ov, cv, ev⟩ := Rd.zn (hv _ (HL2)) (by omega)
   cases ev
   refine aU (gX underlying47 sizeOf128 rfl rfl (by omega)) (aU (lq (ys := [_, _]) (hv _ (HL2)) (by omega) underlying128 rfl sizeOf128 rfl (pV Am (by omega) default) rfl) (iy (gY (l := [_, _]) HL2 zeroValue128 rfl) ?_))
   rintro _ w5 ⟨b5, rfl, H5⟩
   refine aJ (dG 0 (l' := [_, _]) (us := [_, _]) H5 sizeOf128 rfl rfl rfl (aC (by first | rfl | assumption) (aC (by first | rfl | assumption) cZ)) rfl rfl) ?_
   rintro _ w6 H6
   refine aA (aj (ay (ah (bG 1 underlying128 rfl sizeOf2 rfl (dX underlying2 rfl (H6).get.2 rfl (aU (eF rfl rfl) (aA (aj (aP rfl (fun h4 => ?_) (fun h4 => ?_))))))))))
   ·(try simp only [aF] at h4)
    have hkn := h4
    refine ay (ah (aV rfl (aA (aj (aI (aY (aK (aK (aY (aK (aH (.inl rfl) results182 rfl ?_)))))))))))
    exact ⟨by rw [Rn hsh hkl2 hkn], H6.right⟩
   ·(try simp only [aF] at h4)
    have hkp : ¬ (l.getD k2 default).2 < 0 := by have h9 := h4; omega
    refine aO (aQ (aj (ah (aU (fC rfl rfl (by omega)) (aN rfl (aA ?_))))))
    refine eG (k2 + 1) ?_ ?_ ?_ ?_
    ·exact (Sub.cons rfl (Sub.nil _))
    ·exact (Sub.cons rfl (Sub.cons rfl (Sub.nil _)))
    ·(try dsimp only)
     first | done | exact ⟨⟨by omega, fun i hi => (show i < k2 ∨ i = k2 from by omega).elim (hpo i) (fun c => c ▸ hkp)⟩, H6.right⟩
    ·(try dsimp only); omega
  ·(try simp only [aF] at h3)
   refine eU (aZ (aZ (bK (aj (ay ?_)))))
   obtain rfl : k2 = l.length := by omega
   refine ah (aV rfl (aA (aj (aI (aH (.inl rfl) results182 rfl ?_)))))
   exact ⟨by rw [Ug hsh hpo], HL2⟩
def pz (hl : List qO) (most : Int) : Nat := hl.length - most.toNat
theorem Az (H : aB w0 w (dH p (.cells #[v, .int .i64 base, .int .i64 most] 132 (0, 0)) • Row 128 2 v hl.length (hl.flatMap nJ) • F)) (hm : 0 ≤ most ∧ most ≤ 4096) (hb : 1 ≤ base ∧ base ≤ 2305843009213693952) (hn : hl.length ≤ 70368744177664) :
  fG prog 183 #[.pointer (some ⟨p, 0, none⟩)] w fun _ w' => ∃ v', aB w0 w' (dH p (.cells #[v', .int .i64 (base + pz hl most), .int .i64 most] 132 (0, 0)) • Row 128 2 v' (hl.drop (pz hl most)).length ((hl.drop (pz hl most)).flatMap nJ) • F) := by
 refine gG func183 ntmps183 ?_
 dsimp only [bf, Nat.reduceAdd]
 refine ay ?_
 have O7 := H.drew
 have tJ := aB.kp (O7.f2.f2)
 refine yI [4, 10] tJ rfl (iD 0 rfl tJ rfl (jS 1 rfl tJ rfl (gV 2 rfl tJ 0 underlying132 rfl sizeOf130 rfl (gV 3 rfl tJ 0 underlying130 rfl sizeOf47 rfl (jB 4 rfl tJ (fun W hW => jR underlying47 rfl ((Kp.h hW)).get.2 rfl) (jr 5 rfl tJ (fun _ => jg ((O7.f2).aS) underlying47 rfl) (iD 6 rfl tJ rfl (jS 7 rfl tJ rfl (gV 8 rfl tJ 0 underlying132 rfl sizeOf130 rfl (gV 9 rfl tJ 2 underlying130 rfl sizeOf3 rfl (jB 10 rfl tJ (fun W hW => jR underlying3 rfl ((Kp.h hW)).get.2 rfl) (jr 11 rfl tJ (fun _ => iP rfl rfl (by omega)) (jr 12 rfl tJ (fun _ => eH rfl) (qQ (aj (ay (ah (aN rfl (aU (dF rfl rfl) (aA (aj (aP rfl (fun h1 => ?_) (fun h1 => ?_)))))))))))))))))))))))
 ·(try simp only [aF] at h1)
  have hk : (pz hl most : Int) = (hl.length : Int) - most := by have h9 := h1; unfold pz; omega
  refine ay (ah (aN rfl (aN rfl (bM rfl (bG 0 underlying132 rfl sizeOf130 rfl (bG 0 underlying130 rfl sizeOf47 rfl (dX underlying47 rfl (O7).get.2 rfl (aN rfl (aU (uF ((O7.f2).aS) underlying47 sizeOf128 rfl rfl rfl (by omega)) (bW rfl func118 (zH (hl := hl.drop (pz hl most)) O7 (fun W HW => by rw [show ((hl.length : Int) - most).toNat = pz hl most from by omega, show ((hl.length : Nat) : Int).toNat = hl.length from by omega]; exact Ui HW.f2.aS (by unfold pz; omega)) (by rw [List.length_drop]; unfold pz; omega)) ?_))))))))))
  rintro u1 w1 H1
  refine bM rfl (bG 0 underlying132 rfl sizeOf130 rfl (bG 0 underlying130 rfl sizeOf47 rfl (aJ (aT 0 (l' := [_, _, _]) H1.f2 sizeOf47 rfl rfl (by first | rfl | exact Rd.one ((H1).aS)) rfl rfl) ?_)))
  rintro _ w2 H2
  refine aA (aj (ah (aN rfl (bM rfl (bG 0 underlying132 rfl sizeOf130 rfl (bG 1 underlying130 rfl sizeOf2 rfl (dX underlying2 rfl (H2).get.2 rfl (aN rfl (aU (fC rfl rfl (by omega)) (bM rfl (bG 0 underlying132 rfl sizeOf130 rfl (bG 1 underlying130 rfl sizeOf2 rfl (aJ (aT 1 (l' := [_, _, _]) H2 sizeOf2 rfl rfl (by first | rfl | assumption) rfl rfl) ?_)))))))))))))
  rintro _ w3 H3
  refine aA (gU (.inr rfl) results183 ?_)
  exact ⟨_, by rw [hk]; exact H3.f3.right.f2.f2⟩
 ·(try simp only [aF] at h1)
  have hk : pz hl most = 0 := by have h9 := h1; unfold pz; omega
  refine aO (gU (.inr rfl) results183 ?_)
  exact ⟨_, by rw [hk]; simpa using O7⟩
theorem YW {hl l : List qO} {base most : Int} (h : Yk hl base most) (hb : hl.length + l.length ≤ 5864062014805) (hm : xY l = 0) (hbase : base ≤ 1152921504606846976) : Yk ((hl ++ l).drop (pz (hl ++ l) most)) (base + pz (hl ++ l) most) most := by
  obtain ⟨h1, h2, h3, h4, h5, h6⟩ := h
  have hl1 : (hl ++ l).length = hl.length + l.length := List.length_append
  refine ⟨?_, ?_, ?_, ?_, h5, fun x hx => ?_⟩
  · rw [List.length_drop]; unfold pz; omega
  · omega
  · unfold pz; omega
  · rw [List.length_drop]; unfold pz; omega
  · rcases List.mem_append.1 (List.mem_of_mem_drop hx) with c | c
    · exact h6 x c
    · exact Ro hm x c
def Rq (hl : List qO) (most : Int) (l : List qO) : List qO := if xY l = 0 then (hl ++ l).drop (pz (hl ++ l) most) else hl
def Rt (hl : List qO) (base most : Int) (l : List qO) : Int := if xY l = 0 then base + pz (hl ++ l) most else base
theorem IL (H : aB w0 w (fU p hl base most • F)) (hv : KF w0 F 2 v l.length (l.flatMap nJ)) (hb : hl.length + l.length ≤ 5864062014805) (hbase : base ≤ 1152921504606846976) :
  fG prog 108 #[.pointer (some ⟨p, 0, none⟩), v] w fun v' w' => v' = .int .i64 (xY l) ∧ aB w0 w' (fU p (Rq hl most l) (Rt hl base most l) most • F) := by
 refine gG func108 ntmps108 ?_
 dsimp only [bf, Nat.reduceAdd]
 refine ay (ah (aV rfl (aA (aj (ay (ay (ah (aN rfl (bW rfl func117 (ug H) ?_)))))))))
 rintro _ _ ⟨rfl, rfl⟩
 refine aA (aj (mO (aO (aj (ay (ay (ah (aN rfl (bW rfl func182 (IK H (fun W HW => hv _ (HW.right)) (by omega)) ?_)))))))))
 rintro _ w2 ⟨rfl, H2⟩
 refine aV rfl (aA (aj (ay (ah (aN rfl (aU (bY rfl rfl) (aA (aj (aP rfl (fun h1 => ?_) (fun h1 => ?_))))))))))
 ·(try simp only [aF] at h1)
  have hm := h1
  refine ay (ah (aN rfl (aV rfl (aA (aj (aI (aK (aH (.inl rfl) results108 rfl ?_))))))))
  exact ⟨rfl, by unfold Rq Rt; rw [if_neg hm, if_neg hm]; exact H2⟩
 ·(try simp only [aF] at h1)
  have hm : xY l = 0 := h1
  refine aO (aj (ay ?_))
  obtain ⟨V4, yQ, D6⟩ := (H2).hist
  have hkl := yQ.1
  have hon := @Nw l
  refine ah (aN rfl (aN rfl (bM rfl (bG 0 underlying132 rfl sizeOf130 rfl (bG 0 underlying130 rfl sizeOf47 rfl (dX underlying47 rfl (D6).get.2 rfl (aN rfl (iy (iR D6.f2 underlying47 (show (prog.info? 128).map (fun i => (i.zero, i.size, i.bytes)) = some (some (.agg #[.string .empty, .int .i64 0]), 2, 24) by kernel_rfl) rfl rfl rfl (hv _ (D6.right.right)) (by assumption) (by omega) (by omega)) ?_))))))))
  rintro l4 w4 H4
  refine bM rfl (bG 0 underlying132 rfl sizeOf130 rfl (bG 0 underlying130 rfl sizeOf47 rfl (aJ (aT 0 (l' := [_, _, _]) H4.f2 sizeOf47 rfl rfl (by first | rfl | exact Rd.one ((H4).aS)) rfl rfl) ?_)))
  rintro _ w5 H5
  refine aA (aj (ay (ah (aN rfl (bW rfl func183 (Az (hl := hl ++ l) (by rw [List.flatMap_append, List.length_append]; exact H5.f2.f2) ⟨by have := yQ.2.2.2.1; omega, yQ.2.2.2.2.1⟩ ⟨yQ.2.1, by omega⟩ (by have := yQ.1; rw [List.length_append]; omega)) ?_)))))
  rintro _ w6 ⟨v2, H6⟩
  refine aA (aj (ay (ah (aV rfl (aA (aj (aI (aH (.inl rfl) results108 rfl ?_))))))))
  exact ⟨by rw [hm], by unfold Rq Rt; rw [if_pos hm, if_pos hm]; exact aB.vV (YW yQ hb hm hbase) H6⟩
theorem Eu {n : Int} (H : aB w0 w F) (hn : 0 ≤ n ∧ n ≤ 4096) (hv : KF w0 F 2 v l.length (l.flatMap nJ)) (hb : l.length ≤ 5864062014805) (hm : xY l = 0) : fG prog 39 #[.int .i64 n, v] w fun v' w' =>
  ∃ p, v' = .tuple #[.pointer (some ⟨p, 0, none⟩), .int .i64 0] ∧ aB w0 w' (fU p (Rq [] n l) (Rt [] 1 n l) n • F) := by
 refine gG func39 ntmps39 ?_
 dsimp only [bf, Nat.reduceAdd]
 refine ay (ah (aV rfl (aV rfl (aA (aj (ay (ah (aN rfl (bW rfl func107 (Io H (by omega)) ?_)))))))))
 rintro _ w1 ⟨p1, rfl, H1⟩
 refine aN rfl (FP rfl rfl (FP rfl rfl (aV rfl (aV rfl (aA (aj (ay (ay (ah (aN rfl (aU (bY rfl rfl) (aA (aj (aP rfl (fun h => by exfalso; (try simp only [aF] at h); simp at h) (fun h1 => ?_)))))))))))))))
 (try simp only [aF] at h1)
 refine aO (aj (ay (ay (ah (aN rfl (aN rfl (bW rfl func108 (IL H1 hv (by simp; omega) (by decide)) ?_)))))))
 rintro _ w2 ⟨rfl, H2⟩
 refine aV rfl (aA (aj (ay (ah (aN rfl (aU (bY rfl rfl) (aA (aj (aP rfl (fun h => by exfalso; (try simp only [aF] at h); exact h hm) (fun h2 => ?_))))))))))
 (try simp only [aF] at h2)
 refine aO (aj (ay (ah (aN rfl (aV rfl (aV rfl (aA (aj (aI (mW (.inl rfl) results39 rfl rfl ?_))))))))))
 exact ⟨_, rfl, H2⟩
end
def Gs (l : List qO) : List qO := Rq [] 4096 l
def Gt (l : List qO) : Int := Rt [] 1 4096 l
end Go.Proofs.YtgndbccogcofjaaGreatDoor
end
section
namespace Go.Proofs.YtgndbccogcofjaaGreatDoor
open Go.RowKit
structure Out (s : bC) (L : List Int) (pt : Int) (G : List (List fB)) (run : Bool) : Prop where
  dU : s.dU = false
  L : s.c.L = L
  pt : s.c.pt = pt
  G : s.c.un s.c.place = G
  run : s.c.run = run
  over : s.c.over = false
structure Ve (s : bC) (L : List Int) (pt : Int) (G : List (List fB)) (run : Bool) : Prop where
  dU : s.dU = true
  L : s.c.L = L
  pt : s.c.pt = pt
  G : s.c.un s.c.place = G
  run : s.c.run = run
  over : s.c.over = false
  put : s.put = []
  cls : s.cls = 0
  whole : s.whole = true
section
variable {s : bC} {L : List Int} {pt : Int} {G : List (List fB)} {run : Bool} {r : Int}
theorem Out.begin (h : Out s L pt G run) : Ve s.aW L pt G run ∧ s.Ap = 0 := by
  unfold bC.aW bC.Ap
  rw [if_neg (by rw [h.dU]; decide), if_neg (by rw [h.dU]; decide)]
  exact ⟨⟨rfl, h.L, h.pt, h.G, h.run, h.over, rfl, rfl, rfl⟩, rfl⟩
def Kq (G : List (List fB)) (run : Bool) (x : fB) : List (List fB) := if run then (match G.getLast? with | some g => G.dropLast ++ [g ++ [x]] | none => [[x]]) else G ++ [[x]]
theorem Ve.Vf (h : Ve s L pt G run) (h1 : 0 ≤ pt ∧ pt ≤ L.length) (h2 : L.length < 1024) (h3 : eY G [] < 16384) :
    s.QF [r] = 0 ∧ s.yB [r] = { (s.iV (L.take pt.toNat ++ [r] ++ L.drop pt.toNat) (pt + 1) (nV L s.c.mark pt pt [r])) with put := [(pt, [], [r])], cls := 3 } := by
  have hto : s.Aq [r] = pt := by unfold bC.Aq; rw [h.over]; exact h.pt
  have hE : jw L pt pt [r] = 0 := by unfold jw; rw [if_neg (by omega), if_neg (by simp; omega)]
  have hE' : s.jF s.c.pt (s.Aq [r]) [r] = 0 := by unfold bC.jF; rw [if_pos h.dU, hto, h.pt, h.L]; exact hE
  have hP : nH L pt pt pt [r] = pt + 1 := by unfold nH bI; rw [if_pos hE, if_neg (by omega), if_pos (by omega)]; rfl
  have hD : ku L pt pt [r] = [] := by unfold ku; rw [if_pos hE]; simp
  have hI : kC L pt pt [r] = [r] := by unfold kC; rw [if_pos hE]
  have hA : pq L pt pt [r] = pt := by unfold pq; rw [if_pos hE]
  have hL : mP L pt pt [r] = L.take pt.toNat ++ [r] ++ L.drop pt.toNat := by unfold mP; rw [if_pos hE]
  have hS : s.iC s.c.pt (s.Aq [r]) [r] = { (s.iV (L.take pt.toNat ++ [r] ++ L.drop pt.toNat) (pt + 1) (nV L s.c.mark pt pt [r])) with put := [(pt, [], [r])] } := by
    unfold bC.iC
    rw [if_pos h.dU, hto, h.pt, h.L, hP, hD, hI, hA, hL]
    unfold bC.mQ
    rw [if_neg (by simp), if_neg (by
      show ¬ 16384 ≤ eY (s.c.un s.c.place) s.put
      rw [h.G, h.put]; omega)]
    show _ = _
    unfold bC.iV
    simp only [h.put, List.nil_append]
  refine ⟨hE', ?_⟩
  unfold bC.yB
  rw [if_pos h.dU]
  dsimp only
  rw [if_pos ⟨hE', h.cls⟩, hS]
theorem Ew (u : bC) (h : u.dU = true) : (u.iE 0).c.L = u.c.L := by by_cases ha : u.argues = true <;> by_cases hp : u.put = [] <;> by_cases hc : u.cls = 2 <;> simp [bC.iE, bC.jJ, bC.fK, bC.dQ, bC.uT, bC.kW, bC.jq, bC.here, gq, ha, hp, hc, h]
theorem zQ (u : bC) (h : u.dU = true) : (u.iE 0).c.pt = u.c.pt := by by_cases ha : u.argues = true <;> by_cases hp : u.put = [] <;> by_cases hc : u.cls = 2 <;> simp [bC.iE, bC.jJ, bC.fK, bC.dQ, bC.uT, bC.kW, bC.jq, bC.here, gq, ha, hp, hc, h]
theorem WG (u : bC) (h : u.dU = true) : (u.iE 0).c.E = u.c.E := by by_cases ha : u.argues = true <;> by_cases hp : u.put = [] <;> by_cases hc : u.cls = 2 <;> simp [bC.iE, bC.jJ, bC.fK, bC.dQ, bC.uT, bC.kW, bC.jq, bC.here, gq, ha, hp, hc, h]
theorem Uj (u : bC) (h : u.dU = true) : (u.iE 0).c.at_ = u.c.at_ := by by_cases ha : u.argues = true <;> by_cases hp : u.put = [] <;> by_cases hc : u.cls = 2 <;> simp [bC.iE, bC.jJ, bC.fK, bC.dQ, bC.uT, bC.kW, bC.jq, bC.here, gq, ha, hp, hc, h]
theorem Gu (u : bC) (h : u.dU = true) : (u.iE 0).c.over = u.c.over := by by_cases ha : u.argues = true <;> by_cases hp : u.put = [] <;> by_cases hc : u.cls = 2 <;> simp [bC.iE, bC.jJ, bC.fK, bC.dQ, bC.uT, bC.kW, bC.jq, bC.here, gq, ha, hp, hc, h]
theorem vk (u : bC) (h : u.dU = true) : (u.iE 0).dU = false := by by_cases ha : u.argues = true <;> by_cases hp : u.put = [] <;> by_cases hc : u.cls = 2 <;> simp [bC.iE, bC.jJ, bC.fK, bC.dQ, bC.uT, bC.kW, bC.jq, bC.here, gq, ha, hp, hc, h]
theorem O8 (u : bC) (h : u.dU = true) : (u.iE 0).c.last = u.cls := by by_cases ha : u.argues = true <;> by_cases hp : u.put = [] <;> by_cases hc : u.cls = 2 <;> simp [bC.iE, bC.jJ, bC.fK, bC.dQ, bC.uT, bC.kW, bC.jq, bC.here, gq, ha, hp, hc, h]
theorem Kr (u : bC) (h : u.dU = true) : (u.iE 0).c.run = (u.typed && (!u.put.isEmpty || u.c.run)) := by by_cases ha : u.argues = true <;> by_cases hp : u.put = [] <;> by_cases hc : u.cls = 2 <;> simp [bC.iE, bC.jJ, bC.fK, bC.dQ, bC.uT, bC.kW, bC.jq, bC.here, gq, ha, hp, hc, h]
theorem NU (u : bC) (h : u.dU = true) : (u.iE 0).c.un (u.iE 0).c.place = u.jq (u.typed && u.c.run) := by by_cases ha : u.argues = true <;> by_cases hp : u.put = [] <;> by_cases hc : u.cls = 2 <;> simp [bC.iE, bC.jJ, bC.fK, bC.dQ, bC.uT, bC.kW, bC.jq, bC.here, gq, ha, hp, hc, h]
theorem Ve.typed (h : Ve s L pt G run) (h1 : 0 ≤ pt ∧ pt ≤ L.length) (h2 : L.length < 1024) (h3 : eY G [] < 16384) :
    Out ((s.yB [r]).iE 0) (L.take pt.toNat ++ [r] ++ L.drop pt.toNat) (pt + 1) (Kq G run (pt, [], [r])) true ∧ (s.yB [r]).mG 0 = 0 := by
  obtain ⟨_, e⟩ := h.Vf (r := r) h1 h2 h3
  have hu : (s.yB [r]).dU = true := by rw [e]; exact h.dU
  have hT : (s.yB [r]).typed = true := by rw [e]; show (((3 : Int) == 3) && s.whole) = true; rw [h.whole]; rfl
  have hp : (s.yB [r]).put = [(pt, [], [r])] := by rw [e]
  have hr : (s.yB [r]).c.run = run := by rw [e]; exact h.run
  have hh : (s.yB [r]).here = G := by rw [e]; exact h.G
  refine ⟨⟨vk _ hu, (Ew _ hu).trans (by rw [e]; rfl), (zQ _ hu).trans (by rw [e]; rfl), ?_, ?_, (Gu _ hu).trans (by rw [e]; exact h.over)⟩, by unfold bC.mG; rw [if_pos hu]⟩
  · rw [NU _ hu, hT, hr, Bool.true_and]
    unfold bC.jq Kq
    rw [if_neg (by rw [hp]; simp), hp, hh] <;> rfl
  · rw [Kr _ hu, hT, hp]; rfl
def Gv (s : bC) (r : Int) : bC := (s.aW.yB [r]).iE (s.aW.QF [r])
theorem Out.Gv (h : Out s L pt G run) (h1 : 0 ≤ pt ∧ pt ≤ L.length) (h2 : L.length < 1024) (h3 : eY G [] < 16384) :
    Out (Gv s r) (L.take pt.toNat ++ [r] ++ L.drop pt.toNat) (pt + 1) (Kq G run (pt, [], [r])) true := by
  unfold Go.Proofs.YtgndbccogcofjaaGreatDoor.Gv
  rw [(h.begin.1.Vf (r := r) h1 h2 h3).1]
  exact (h.begin.1.typed h1 h2 h3).1
theorem O9 (hi : s.dU = true) (hL : s.c.L = L) (hpt : s.c.pt = pt) (hG : s.here = G) (ho : s.c.over = false) (hp : s.put = []) (hc : s.cls = 0) : Out (s.iE 0) L pt G false := by
  have hT : s.typed = false := by unfold bC.typed; rw [hc]; rfl
  refine ⟨vk _ hi, (Ew _ hi).trans hL, (zQ _ hi).trans hpt, ?_, ?_, (Gu _ hi).trans ho⟩
  · rw [NU _ hi]; unfold bC.jq; rw [if_pos hp]; exact hG
  · rw [Kr _ hi, hT]; rfl
theorem Ve.end_ (h : Ve s L pt G run) : Out (s.iE 0) L pt G false := O9 h.dU h.L h.pt h.G h.over h.put h.cls
theorem Out.move (h : Out s L pt G run) (x : Int) (hx : 0 ≤ x ∧ x ≤ L.length) : Out ((s.aW.kN x).iE 0) L x G false := by
  have hb := h.begin.1
  refine Ve.end_ (s := s.aW.kN x) (run := run) ?_
  unfold bC.kN
  rw [if_pos hb.dU]
  refine ⟨hb.dU, hb.L, ?_, hb.G, hb.run, hb.over, hb.put, hb.cls, hb.whole⟩
  show RY s.aW.c.L.length s.aW.c.pt x = x
  unfold RY
  rw [if_pos (by rw [hb.L]; omega)]
end
end Go.Proofs.YtgndbccogcofjaaGreatDoor
end
section
namespace Go.Proofs.YtgndbccogcofjaaGreatDoor
open Go.RowKit
def Uk (p : Int) : List Int → List fB
  | [] => []
  | r :: l => (p, [], [r]) :: Uk (p + 1) l
theorem Ru (p : Int) (l : List Int) (r : Int) : Uk p (l ++ [r]) = Uk p l ++ [(p + l.length, [], [r])] := by
  induction l generalizing p with
  | nil => simp [Uk]
  | cons x l ih => simp only [List.cons_append, Uk, ih, List.length_cons]; rw [show p + 1 + (l.length : Int) = p + ((l.length + 1 : Nat) : Int) from by omega]
theorem Ul (p : Int) (l : List Int) : (Uk p l).length = l.length := by induction l generalizing p with
  | nil => rfl
  | cons x l ih => simp [Uk, ih]
def BD (G : List (List fB)) (p : Int) (l : List Int) : List (List fB) := if l = [] then G else G ++ [Uk p l]
theorem Pe (G : List (List fB)) (p : Int) (l : List Int) : eY (BD G p l) [] = eY G [] + l.length := by
  unfold BD eY; split
  · rename_i h; subst h; simp
  · simp [Ul]
theorem MC (G : List (List fB)) (p : Int) (l : List Int) (r : Int) : Kq (BD G p l) (!l.isEmpty) (p + l.length, [], [r]) = BD G p (l ++ [r]) := by
  unfold Kq BD
  rw [if_neg (show l ++ [r] ≠ [] by simp)]
  cases l with
  | nil => simp [Uk]
  | cons x l => rw [if_neg (show ¬ x :: l = [] by simp)]; simp only [List.isEmpty_cons, Bool.not_false, if_true, List.getLast?_append, List.getLast?_singleton, Option.some_or, List.dropLast_concat, Ru]
theorem nC (s : bC) : s.aW.dU = true := by unfold bC.aW; split; assumption; rfl
section
variable {s : bC} {L : List Int} {pt : Int} {G : List (List fB)} {run : Bool} {r : Int}
def Ey (s : bC) (l : List Int) : bC := l.foldl Gv s
theorem Out.Ey (h : Out s L pt G false) (h1 : 0 ≤ pt ∧ pt ≤ L.length) (l : List Int) (h2 : L.length + l.length ≤ 1024) (h3 : eY G [] + l.length ≤ 16384) :
    Out (Ey s l) (L.take pt.toNat ++ l ++ L.drop pt.toNat) (pt + l.length) (BD G pt l) (!l.isEmpty) := by
  suffices hh : ∀ n (l : List Int), l.length = n → L.length + n ≤ 1024 → eY G [] + n ≤ 16384 → Out (Go.Proofs.YtgndbccogcofjaaGreatDoor.Ey s l) (L.take pt.toNat ++ l ++ L.drop pt.toNat) (pt + l.length) (BD G pt l) (!l.isEmpty) from hh _ l rfl h2 h3
  intro n
  induction n with
  | zero =>
    intro l hn _ _
    obtain rfl := List.length_eq_zero_iff.1 hn
    simpa [BD, Go.Proofs.YtgndbccogcofjaaGreatDoor.Ey] using h
  | succ n ih =>
    intro l hn h2 h3
    rcases List.eq_nil_or_concat l with rfl | ⟨l, r, rfl⟩
    · cases hn
    rw [List.concat_eq_append] at hn ⊢
    have hn2 : l.length = n := by simpa using hn
    have h4 := ih l hn2 (by omega) (by omega)
    have hl : (L.take pt.toNat ++ l ++ L.drop pt.toNat).length = L.length + l.length := by simp; omega
    have h5 := h4.Gv (r := r) (by rw [hl]; omega) (by rw [hl]; omega) (by rw [Pe]; omega)
    have e1 : (L.take pt.toNat ++ l ++ L.drop pt.toNat).take (pt + l.length).toNat = L.take pt.toNat ++ l := by
      rw [List.take_append_of_le_length (by simp; omega), List.take_of_length_le (by simp; omega)]
    have e2 : (L.take pt.toNat ++ l ++ L.drop pt.toNat).drop (pt + l.length).toNat = L.drop pt.toNat := by
      rw [List.drop_append_of_le_length (by simp; omega), List.drop_of_length_le (by simp; omega), List.nil_append]
    rw [e1, e2, MC] at h5
    have e3 : Go.Proofs.YtgndbccogcofjaaGreatDoor.Ey s (l ++ [r]) = Go.Proofs.YtgndbccogcofjaaGreatDoor.Gv (Go.Proofs.YtgndbccogcofjaaGreatDoor.Ey s l) r := by unfold Go.Proofs.YtgndbccogcofjaaGreatDoor.Ey; rw [List.foldl_append]; rfl
    rw [e3]
    rw [show pt + ((l ++ [r]).length : Int) = pt + l.length + 1 from by simp; omega, show (!(l ++ [r]).isEmpty) = true from by simp, ← List.append_assoc]
    exact h5
end
end Go.Proofs.YtgndbccogcofjaaGreatDoor
end
section
namespace Go.Proofs.YtgndbccogcofjaaGreatDoor
open Go.RowKit
section
variable {s : bC}
theorem Um (s : bC) (x : fB) : (s.mQ x).c.L = s.c.L ∧ (s.mQ x).c.pt = s.c.pt ∧ (s.mQ x).c.mark = s.c.mark ∧ (s.mQ x).c.E = s.c.E ∧ (s.mQ x).c.at_ = s.c.at_ ∧ (s.mQ x).dU = s.dU ∧ (s.mQ x).cls = s.cls ∧ (s.mQ x).was = s.was := by
  unfold bC.mQ
  split
  · simp
  · split <;> simp [bC.kW]
theorem NV (h : s.dU = true) (i j : Int) (l : List Int) : (s.iC i j l).c.L = mP s.c.L i j l ∧ (s.iC i j l).c.pt = nH s.c.L s.c.pt i j l ∧ (s.iC i j l).c.mark = nV s.c.L s.c.mark i j l ∧ (s.iC i j l).c.E = s.c.E ∧ (s.iC i j l).c.at_ = s.c.at_ ∧ (s.iC i j l).dU = true ∧ (s.iC i j l).cls = s.cls ∧ (s.iC i j l).was = s.was := by
  unfold bC.iC
  rw [if_pos h]
  obtain ⟨h1, h2, h3, h4, h5, h6, h7, h8⟩ := Um (s.iV (mP s.c.L i j l) (nH s.c.L s.c.pt i j l) (nV s.c.L s.c.mark i j l)) (pq s.c.L i j l, ku s.c.L i j l, kC s.c.L i j l)
  exact ⟨h1, h2, h3, h4, h5, h6.trans h, h7, h8⟩
theorem MF (h : s.dU = true) {i j : Int} {back : Bool} (hi : 0 ≤ i ∧ i ≤ j ∧ j ≤ s.c.L.length) (hL : s.c.L.length ≤ 1024) (hk : (s.kX i j back).1 = 0) (hp : i ≤ s.c.pt ∧ s.c.pt ≤ j) :
    (s.qV i j back).c.L = s.c.L.take i.toNat ++ s.c.L.drop j.toNat ∧ (s.qV i j back).c.pt = i ∧ (s.qV i j back).c.E = (s.kX i j back).2.1 ∧ (s.qV i j back).c.at_ = (s.kX i j back).2.2 ∧ (s.qV i j back).dU = true ∧ (s.qV i j back).cls = 1 := by
  have hc : s.lC i j back = 0 := by
    unfold bC.lC
    rw [if_pos h, if_neg (by unfold bC.kJ; omega), hk]
  have hE : jw s.c.L i j [] = 0 := by unfold jw; rw [if_neg (by omega), if_neg (by simp; omega)]
  unfold bC.qV
  rw [if_pos hc]
  have e : s.lZ i j back = { s.zJ (s.kX i j back).2.1 (s.kX i j back).2.2 with killed := true, cls := 1 } := by unfold bC.lZ; rw [if_pos hc]
  have ei : (s.lZ i j back).dU = true := by rw [e]; exact h
  obtain ⟨h1, h2, h3, h4, h5, h6, h7, h8⟩ := NV ei i j []
  refine ⟨h1.trans ?_, h2.trans ?_, h4.trans (by rw [e]; rfl), h5.trans (by rw [e]; rfl), h6, h7.trans (by rw [e])⟩
  · rw [show (s.lZ i j back).c.L = s.c.L from by rw [e]; rfl]
    unfold mP
    rw [if_pos hE]; simp
  · rw [show (s.lZ i j back).c.L = s.c.L from by rw [e]; rfl, show (s.lZ i j back).c.pt = s.c.pt from by rw [e]; rfl]
    unfold nH bI
    rw [if_pos hE]
    simp only [List.length_nil]
    split <;> (try split) <;> omega
end
structure AA (s : bC) (A : List Int) (a b : Int) : Prop where
  dU : s.dU = false
  ok : 0 ≤ a ∧ a ≤ b ∧ b ≤ A.length
  L : s.c.L = A.take a.toNat ++ A.drop b.toNat
  pt : s.c.pt = a
  ring : (s.c.E = [] ∧ a = b) ∨ (s.c.E = [(A.drop a.toNat).take (b.toNat - a.toNat)] ∧ s.c.at_ = 0 ∧ s.c.last = 1)
section
variable {s : bC} {A : List Int} {a b k : Int}
theorem AA.len (h : AA s A a b) : (s.c.L.length : Int) = A.length - (b - a) := by
  have := h.ok
  rw [h.L]; simp; omega
theorem dR (s : bC) : s.aW.c = s.c := by unfold bC.aW; split <;> rfl
theorem yX (h : AA s A a b) (hA : A.length ≤ 1024) {i j : Int} {back : Bool} {l : List Int} (hcut : s.aW.cut i j = l) (hl : l.length + (b - a) ≤ A.length) :
    (s.aW.kX i j back).1 = 0 ∧ ((s.aW.kX i j back).2.1 = [] ∧ l = [] ∧ a = b ∨ (s.aW.kX i j back).2.1 = [if back then l ++ (A.drop a.toNat).take (b.toNat - a.toNat) else (A.drop a.toNat).take (b.toNat - a.toNat) ++ l] ∧ (s.aW.kX i j back).2.2 = 0) := by
  have ho := h.ok
  have hb : s.aW.killed = false := by unfold bC.aW; rw [if_neg (by rw [h.dU]; decide)]
  unfold bC.kX
  rw [hcut, dR]
  rcases h.ring with ⟨h1, h2⟩ | ⟨h1, h2, h3⟩
  · rw [h1]
    have hx : (A.drop a.toNat).take (b.toNat - a.toNat) = [] := by rw [h2]; simp
    have hw : s.aW.way back = 0 ∨ s.aW.way back = 1 ∨ s.aW.way back = 2 := by unfold bC.way; split <;> (try split) <;> simp
    unfold wS
    rw [if_neg (by omega), if_neg (by omega), if_neg (by simp)]
    split
    · rename_i h4
      exact ⟨rfl, .inl ⟨rfl, List.length_eq_zero_iff.1 h4.2, h2⟩⟩
    · rw [hx]
      exact ⟨rfl, .inr ⟨by cases back <;> simp, rfl⟩⟩
  · rw [h1, h2]
    have hw : s.aW.way back = if back then 2 else 1 := by unfold bC.way; rw [if_pos (by rw [dR]; exact .inl h3)]
    have hlen : ((A.drop a.toNat).take (b.toNat - a.toNat)).length = b.toNat - a.toNat := by simp; omega
    rw [hw]
    unfold wS
    rw [if_neg (by cases back <;> simp), if_neg (by omega), if_pos (by cases back <;> simp), if_neg (by simp only [List.getD_cons_zero]; omega)]
    exact ⟨rfl, .inr ⟨by cases back <;> simp, rfl⟩⟩
theorem AA.step (h : AA s A a b) (hA : A.length ≤ 1024) {i j a' b' : Int} {back : Bool} {l : List Int} (hij : 0 ≤ i ∧ i ≤ j ∧ j ≤ s.c.L.length) (hp : i ≤ a ∧ a ≤ j) (hcut : s.aW.cut i j = l) (hl : l.length + (b - a) ≤ A.length)
    (ho : 0 ≤ a' ∧ a' ≤ b' ∧ b' ≤ A.length) (hi : i = a') (hL : s.c.L.take i.toNat ++ s.c.L.drop j.toNat = A.take a'.toNat ++ A.drop b'.toNat) (he : l = [] → a = b → a' = b')
    (hx : (if back then l ++ (A.drop a.toNat).take (b.toNat - a.toNat) else (A.drop a.toNat).take (b.toNat - a.toNat) ++ l) = (A.drop a'.toNat).take (b'.toNat - a'.toNat)) :
    AA ((s.aW.qV i j back).iE 0) A a' b' := by
  obtain ⟨h1, h2⟩ := yX h hA (back := back) hcut hl
  have hlen := h.len
  have hok := h.ok
  obtain ⟨k1, k2, k3, k4, k5, k6⟩ := MF (s := s.aW) (nC s) (i := i) (j := j) (back := back) (by rw [dR]; exact hij) (by rw [dR]; omega) h1 (by rw [dR, h.pt]; exact hp)
  rw [dR] at k1
  refine ⟨vk _ k5, ho, (Ew _ k5).trans (k1.trans hL), (zQ _ k5).trans (k2.trans hi), ?_⟩
  rw [WG _ k5, Uj _ k5, O8 _ k5, k3, k4, k6]
  rcases h2 with ⟨q1, q2, q3⟩ | ⟨q1, q2⟩
  · exact .inl ⟨q1, he q2 q3⟩
  · exact .inr ⟨by rw [q1, hx], q2, rfl⟩
theorem AA.back (h : AA s A a b) (hA : A.length ≤ 1024) (hk : 0 ≤ k ∧ k ≤ a) : AA ((s.aW.qV (s.aW.c.pt - k) s.aW.c.pt true).iE 0) A (a - k) b := by
  have hlen := h.len
  have hok := h.ok
  rw [dR, h.pt]
  have e1 : s.aW.cut (a - k) a = (A.drop (a - k).toNat).take k.toNat := by
    unfold bC.cut
    rw [dR, h.L, List.drop_append_of_le_length (by simp; omega), List.take_append_of_le_length (by simp; omega), List.drop_take]
    rw [List.take_take]; congr 1; omega
  refine h.step hA (l := (A.drop (a - k).toNat).take k.toNat) (by omega) (by omega) e1 (by simp; omega) (by omega) rfl ?_ ?_ ?_
  · rw [h.L, List.take_append_of_le_length (by simp; omega), List.take_take, List.drop_append, List.drop_of_length_le (by simp; omega), List.nil_append]
    rw [show min (a - k).toNat a.toNat = (a - k).toNat from by omega, show a.toNat - (A.take a.toNat).length = 0 from by simp; omega, List.drop_zero]
  · intro h1 h2
    have h3 := congrArg List.length h1
    simp at h3; omega
  · simp only [if_true]
    rw [show (A.drop a.toNat).take (b.toNat - a.toNat) = ((A.drop (a - k).toNat).drop k.toNat).take (b.toNat - a.toNat) from by rw [List.drop_drop]; congr 2; omega, show b.toNat - (a - k).toNat = k.toNat + (b.toNat - a.toNat) from by omega, List.take_add]
theorem AA.fwd (h : AA s A a b) (hA : A.length ≤ 1024) (hk : 0 ≤ k ∧ k ≤ A.length - b) : AA ((s.aW.qV s.aW.c.pt (s.aW.c.pt + k) false).iE 0) A a (b + k) := by
  have hlen := h.len
  have hok := h.ok
  rw [dR, h.pt]
  have hta : (A.take a.toNat).length = a.toNat := by simp; omega
  have e0 : s.c.L.drop a.toNat = A.drop b.toNat := by rw [h.L]; exact List.drop_left' hta
  have e1 : s.aW.cut a (a + k) = (A.drop b.toNat).take k.toNat := by
    unfold bC.cut
    rw [dR, e0]; congr 1; omega
  refine h.step hA (l := (A.drop b.toNat).take k.toNat) (by omega) (by omega) e1 (by simp; omega) (by omega) rfl ?_ ?_ ?_
  · rw [show (a + k).toNat = a.toNat + k.toNat from by omega, ← List.drop_drop, e0, List.drop_drop, show b.toNat + k.toNat = (b + k).toNat from by omega]
    rw [show s.c.L.take a.toNat = A.take a.toNat from by rw [h.L]; exact List.take_left' hta]
  · intro h1 h2
    have h3 := congrArg List.length h1
    simp at h3; omega
  · simp only [Bool.false_eq_true, if_false]
    rw [show A.drop b.toNat = (A.drop a.toNat).drop (b.toNat - a.toNat) from by rw [List.drop_drop]; congr 1; omega, show (b + k).toNat - a.toNat = (b.toNat - a.toNat) + k.toNat from by omega, List.take_add]
end
end Go.Proofs.YtgndbccogcofjaaGreatDoor
end
section
namespace Go.Proofs.YtgndbccogcofjaaGreatDoor
open Go.RowKit
open _root_.Go.Proofs.Tryz
namespace bC
variable (s : bC)
def Vg (x : Int) : bC := (s.aW.kN x).iE (s.aW.nK x)
end bC
def AB (l : List qO) (ln : List Int) : bC := (bC.new (Gs l) (Gt l) 4096).II (Gs l) (Gt l) 4096 ln
def NW (l : List qO) (ln : List Int) (pt : Int) : bC := (AB l ln).Vg pt
theorem Ez (l : List qO) (ln : List Int) : (bC.new (Gs l) (Gt l) 4096).uo ln = if 1024 < ln.length then 3 else 0 := by
  unfold bC.uo; rw [if_neg (by rw [show (bC.new (Gs l) (Gt l) 4096).dU = false from rfl]; decide)]
theorem Kt {t : bC} (h : t.dU = true) (err : Int) : (t.iE err).dU = false := by
  by_cases he : err = 0
  · rw [he]; exact vk t h
  · unfold bC.iE; rw [if_pos h, if_neg he]; rfl
section
variable {w0 w : World} {F : HP} {l : List qO} {hv lv : Value} {ln : List Int} {pt : Int}
theorem zS (H : aB w0 w F) (q1 : KF w0 F 2 hv l.length (l.flatMap nJ)) (q2 : iI w0 F .i32 lv ln) (hb : l.length ≤ 5864062014805) (hm : xY l = 0) (hln : ln.length ≤ 1024) :
  fG prog 20 #[.agg #[hv, lv, .int .i64 pt]] w fun v w' => ∃ e, v = .pointer (some ⟨e, 0, none⟩) ∧ aB w0 w' (dA e (NW l ln pt) • F) := by
 refine gG func20 ntmps20 ?_
 dsimp only [bf, Nat.reduceAdd]
 refine ay (ah (iy (jo (l := [_, _, _]) H rfl rfl) ?_))
 rintro _ w1 ⟨b1, rfl, H1⟩
 refine aV rfl (aA (aj (ay (ah (bG 0 underlying49 rfl sizeOf47 rfl (dX underlying47 rfl (H1).get.2 rfl (bW rfl func39 (Eu H1 (by decide) (fun W HW => q1 _ (HW.right)) hb hm) ?_)))))))
 rintro _ w2 ⟨p2, rfl, H2⟩
 refine aN rfl (FP rfl rfl (FP rfl rfl (aV rfl (aV rfl (aA (aj (ay (ay (ah (aN rfl (aU (bY rfl rfl) (aA (aj (aP rfl (fun h => by exfalso; (try simp only [aF] at h); simp at h) (fun h1 => ?_)))))))))))))))
 (try simp only [aF] at h1)
 refine aO (aj (ay (ah (aN rfl (bW rfl func40 (L8 H2) ?_)))))
 rintro _ w3 ⟨e3, rfl, H3⟩
 refine aN rfl (FP rfl rfl (FP rfl rfl (aV rfl (aV rfl (aA (aj (ay (ay (ah (aN rfl (aU (bY rfl rfl) (eP rfl (fun h => by exfalso; (try simp only [aF] at h); simp at h) (fun h2 => ?_)))))))))))))
 (try simp only [aF] at h2)
 refine aX (aN rfl (aX (aU (iq underlying26 rfl rfl) (dL rfl rfl (eP rfl (fun h => by exfalso; (try simp only [aF] at h); simp at h) (fun h3 => ?_))))))
 (try simp only [aF] at h3)
 refine aX (aN rfl (aX (aN rfl (aX (bG 1 underlying49 rfl sizeOf22 rfl (aX (dX underlying22 rfl (H3.f3).get.2 rfl (aX (bW rfl func41 (IJ H3.f2.f2 (fun W HW => q2 _ (HW.right))) ?_)))))))))
 rintro _ w4 ⟨rfl, H4⟩
 refine aX (aU (bY rfl rfl) (dL rfl rfl (aA (aj (aP rfl (fun h => by exfalso; (try simp only [aF] at h); have h9 := Ez l ln; rw [if_neg (by omega)] at h9; exact h h9) (fun h4 => ?_))))))
 (try simp only [aF] at h4)
 refine aO (aj (ay (ah (aN rfl (bW rfl func26 (zM (s := AB l ln) H4) ?_)))))
 rintro _ w5 ⟨rfl, H5⟩
 refine aA (aj (ay (ah (aN rfl (aN rfl (bG 2 underlying49 rfl sizeOf3 rfl (dX underlying3 rfl (H5.f3).get.2 rfl (bW rfl func42 (jl H5) ?_))))))))
 rintro _ w6 ⟨rfl, H6⟩
 refine bW rfl func27 (Ep H6) ?_
 rintro _ w7 ⟨rfl, H7⟩
 refine aA (aj (ay (ah (aN rfl (aV rfl (aA (aj (aI (aH (.inl rfl) results20 rfl ?_)))))))))
 exact ⟨_, rfl, H7.f2.right.f2.right⟩
end
end Go.Proofs.YtgndbccogcofjaaGreatDoor
end
section
namespace Go.Proofs.YtgndbccogcofjaaGreatDoor
open Go.RowKit
theorem dS {P : Program} {L : List (Nat × Value)} {w : World} {ty t : TypeId} {fs : Array Field} {f : Field} {i : Nat} {x : Operand} {cs : Array Value} {u : Value} (off : Nat) (ht : P.underlying t = some (.struct fs)) (hf : fs[i]? = some f) (ho : f.offset = off) (hp : lJ P f.type = true) (hx : ev L x = some (.agg cs)) (hc : cs[off]? = some u) :
    Val P L (.field t x i) ty w u w := fun ρ hρ _ _ _ _ => by
  simp [execOp, hρ _ _ hx, Instr.field, run_underlying ht, hf, part, asAgg, y9 hp, ho, hc]
end Go.Proofs.YtgndbccogcofjaaGreatDoor
end
