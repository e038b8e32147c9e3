import Derived.Test.YtgndbccogcofjaaGreatDoorZ2
import Derived.Test.YtgndbccogcofjaaGreatDoorZ15
import Derived.Test.YtgndbccogcofjaaGreatDoorZ16
import Derived.Test.YtgndbccogcofjaaGreatDoorZ13
import Derived.Test.YtgndbccogcofjaaGreatDoorZ11
import Derived.Test.YtgndbccogcofjaaGreatDoorZ9
set_option linter.unusedSimpArgs false
set_option linter.unusedVariables false
/- Texts of mine, joined, their names in short: EmD EdSt HistF ETyM ETyM2 EKillM EmMade FieldVal. -/
section
namespace Go.Proofs.YtgndbccogcofjaaGreatDoor
open Go.RowKit
open _root_.Go.Proofs.Tryz
def QY : ByteArray := ⟨#[113, 117, 111, 116, 101, 100, 45, 105, 110, 115, 101, 114, 116]⟩
def QZ : ByteArray := ⟨#[99, 104, 97, 114, 97, 99, 116, 101, 114, 45, 115, 101, 97, 114, 99, 104]⟩
def IW : ByteArray := ⟨#[99, 104, 97, 114, 97, 99, 116, 101, 114, 45, 115, 101, 97, 114, 99, 104, 45, 98, 97, 99, 107, 119, 97, 114, 100]⟩
def Dl (n : ByteArray) : Prop := n.toList = QY.toList ∨ n.toList = QZ.toList ∨ n.toList = IW.toList
instance (n : ByteArray) : Decidable (Dl n) := by unfold Dl; infer_instance
def qp (n : ByteArray) (k : Nat) : Int := if wY ((yh n).getD .nilFunc) = true then -1 else if k = 0 ∨ (Dl n ∧ k = 1) then 1 else 0
theorem wu {n : ByteArray} {k : Nat} (h : wY ((yh n).getD .nilFunc) = false) (hd : k = 0 ∨ (Dl n ∧ k = 1)) : qp n k = 1 := by unfold qp; rw [if_neg (by rw [h]; decide), if_pos hd]
theorem qQ {n : ByteArray} {k : Nat} (h : wY ((yh n).getD .nilFunc) = false) (hd : ¬ (k = 0 ∨ (Dl n ∧ k = 1))) : qp n k = 0 := by unfold qp; rw [if_neg (by rw [h]; decide), if_neg hd]
def Py (w0 : World) (fv : Value) (keys : List Int) (s : aZ) (x : Int) (t : aZ) : Prop := ∀ (F : HP) (W : World) (c e : Nat) (lv kv : Value), aB w0 W (dB c (.cells #[.pointer (some ⟨e, 0, none⟩), lv, .int .i64 s.c.pt, .int .i64 s.c.mark, .int .i64 s.count, .bool s.given, kv] 79 (0, 0)) • iL 21 .i32 lv s.c.L • dw e s • F) → gJ w0 F .i32 kv keys →
  GR prog fv [.pointer (some ⟨c, 0, none⟩)] W fun v W' => v = .int .i64 x ∧ aB w0 W' (dB c (.cells #[.pointer (some ⟨e, 0, none⟩), lv, .int .i64 s.c.pt, .int .i64 s.c.mark, .int .i64 s.count, .bool s.given, kv] 79 (0, 0)) • iL 21 .i32 lv s.c.L • dw e t • F)
section
variable {w0 w : World} {F : HP} {e k : Nat} {s t : aZ} {kv : Value} {keys : List Int} {name : ByteArray} {x : Int}
theorem Gl (H : aB w0 w F) (q1 : gJ w0 F .i32 kv keys) : fA prog 14 #[.string name, kv] w fun v w' => v = .int .i64 (qp name keys.length) ∧ aB w0 w' F := by
 have hcv := Vf name
 refine fU func14 ntmps14 ?_
 dsimp only [aY, Nat.reduceAdd]
 refine ay (ah (aU rfl (aA (aj (ay (ay (ah (bZ rfl func25 (yj H) ?_))))))))
 rintro _ w1 ⟨bM1, rfl, H1⟩
 refine aO rfl (aW (Bv (H1) underlying72 underlying9 zeroValue71 rfl rfl) ?_)
 have Hd2 := H1.right
 refine aW (BD underlying71 rfl rfl (by assumption)) ?_
 refine aA (aj (aN rfl (fun h1 => ?_) (fun h1 => ?_)))
 ·(try simp only [aH] at h1)
  have hc := h1
  refine ay (ah (aU rfl (aA (aj (aJ (aK (aI (.inl rfl) results14 rfl ?_)))))))
  exact ⟨by unfold qp; rw [if_pos hc], Hd2⟩
 ·(try simp only [aH] at h1)
  have hc := h1
  refine aP (aj (ay (ah (aO rfl (aW (vW rfl rfl) (gB rfl (fun h2 => ?_) (fun h2 => ?_)))))))
  ·(try simp only [aH] at h2)
   refine bD (bD (fQ rfl rfl (aO rfl (bD (bD (fQ rfl rfl (aU rfl (aA (aj (ay (ay (ah (aO rfl (aW (gY (q1 _ (Hd2)) underlying22 rfl) (aW (eX rfl rfl) (gB rfl (fun h3 => ?_) (fun h3 => ?_)))))))))))))))))
   ·(try simp only [aH] at h3)
    refine bD (bD (lq (lq (lq (bD (fQ rfl rfl (aA (aj (wB (ay (ah (aU rfl (aA (aj (aJ (aK (aI (.inl rfl) results14 rfl ?_)))))))))))))))))
    exact ⟨by rw [wu hc (by first | exact .inl (by omega) | exact .inr ⟨.inl (by assumption), by omega⟩ | exact .inr ⟨.inr (.inl (by assumption)), by omega⟩ | exact .inr ⟨.inr (.inr (by assumption)), by omega⟩)], Hd2⟩
   ·(try simp only [aH] at h3)
    refine bf (aO rfl (bf (aO rfl (bf (aO rfl (bf (aW (gY (q1 _ (Hd2)) underlying22 rfl) (bf (aW (eX rfl rfl) (bf (fQ rfl rfl (fG rfl rfl (aA (aj (aN rfl (fun h4 => ?_) (fun h4 => ?_))))))))))))))))
    ·(try simp only [aH] at h4)
     have hd := h4
     refine ay (ah (aU rfl (aA (aj (aJ (aK (aI (.inl rfl) results14 rfl ?_)))))))
     exact ⟨by rw [wu hc (by first | exact .inl (by omega) | exact .inr ⟨.inl (by assumption), by omega⟩ | exact .inr ⟨.inr (.inl (by assumption)), by omega⟩ | exact .inr ⟨.inr (.inr (by assumption)), by omega⟩)], Hd2⟩
    ·(try simp only [aH] at h4)
     have hd := h4
     refine aP (aj (ay (ah (aU rfl (aA (aj (aJ (aI (.inl rfl) results14 rfl ?_))))))))
     exact ⟨by rw [qQ hc (by rintro (h9 | ⟨h9 | h9 | h9, h8⟩) <;> first | omega | exact absurd h9 (by assumption))], Hd2⟩
  ·(try simp only [aH] at h2)
   refine bf (aO rfl (bf (aW (vW rfl rfl) (fG rfl rfl (gB rfl (fun h5 => ?_) (fun h5 => ?_))))))
   ·(try simp only [aH] at h5)
    refine bD (bD (fQ rfl rfl (aU rfl (aA (aj (ay (ay (ah (aO rfl (aW (gY (q1 _ (Hd2)) underlying22 rfl) (aW (eX rfl rfl) (gB rfl (fun h6 => ?_) (fun h6 => ?_)))))))))))))
    ·(try simp only [aH] at h6)
     refine bD (bD (lq (lq (lq (bD (fQ rfl rfl (aA (aj (wB (ay (ah (aU rfl (aA (aj (aJ (aK (aI (.inl rfl) results14 rfl ?_)))))))))))))))))
     exact ⟨by rw [wu hc (by first | exact .inl (by omega) | exact .inr ⟨.inl (by assumption), by omega⟩ | exact .inr ⟨.inr (.inl (by assumption)), by omega⟩ | exact .inr ⟨.inr (.inr (by assumption)), by omega⟩)], Hd2⟩
    ·(try simp only [aH] at h6)
     refine bf (aO rfl (bf (aO rfl (bf (aO rfl (bf (aW (gY (q1 _ (Hd2)) underlying22 rfl) (bf (aW (eX rfl rfl) (bf (fQ rfl rfl (fG rfl rfl (aA (aj (aN rfl (fun h7 => ?_) (fun h7 => ?_))))))))))))))))
     ·(try simp only [aH] at h7)
      have hd := h7
      refine ay (ah (aU rfl (aA (aj (aJ (aK (aI (.inl rfl) results14 rfl ?_)))))))
      exact ⟨by rw [wu hc (by first | exact .inl (by omega) | exact .inr ⟨.inl (by assumption), by omega⟩ | exact .inr ⟨.inr (.inl (by assumption)), by omega⟩ | exact .inr ⟨.inr (.inr (by assumption)), by omega⟩)], Hd2⟩
     ·(try simp only [aH] at h7)
      have hd := h7
      refine aP (aj (ay (ah (aU rfl (aA (aj (aJ (aI (.inl rfl) results14 rfl ?_))))))))
      exact ⟨by rw [qQ hc (by rintro (h9 | ⟨h9 | h9 | h9, h8⟩) <;> first | omega | exact absurd h9 (by assumption))], Hd2⟩
   ·(try simp only [aH] at h5)
    refine bf (aO rfl (bf (aW (vW rfl rfl) (fG rfl rfl (aU rfl (aA (aj (ay (ay (ah (aO rfl (aW (gY (q1 _ (Hd2)) underlying22 rfl) (aW (eX rfl rfl) (gB rfl (fun h8 => ?_) (fun h8 => ?_)))))))))))))))
    ·(try simp only [aH] at h8)
     refine bD (bD (lq (lq (lq (bD (fQ rfl rfl (aA (aj (wB (ay (ah (aU rfl (aA (aj (aJ (aK (aI (.inl rfl) results14 rfl ?_)))))))))))))))))
     exact ⟨by rw [wu hc (by first | exact .inl (by omega) | exact .inr ⟨.inl (by assumption), by omega⟩ | exact .inr ⟨.inr (.inl (by assumption)), by omega⟩ | exact .inr ⟨.inr (.inr (by assumption)), by omega⟩)], Hd2⟩
    ·(try simp only [aH] at h8)
     refine bf (aO rfl (bf (gB rfl (fun h9 => ?_) (fun h9 => ?_))))
     ·(try simp only [aH] at h9)
      refine bf (aO rfl (bf (aW (gY (q1 _ (Hd2)) underlying22 rfl) (bf (aW (eX rfl rfl) (bf (fQ rfl rfl (fG rfl rfl (aA (aj (aN rfl (fun h10 => ?_) (fun h10 => ?_))))))))))))
      ·(try simp only [aH] at h10)
       have hd := h10
       refine ay (ah (aU rfl (aA (aj (aJ (aK (aI (.inl rfl) results14 rfl ?_)))))))
       exact ⟨by rw [wu hc (by first | exact .inl (by omega) | exact .inr ⟨.inl (by assumption), by omega⟩ | exact .inr ⟨.inr (.inl (by assumption)), by omega⟩ | exact .inr ⟨.inr (.inr (by assumption)), by omega⟩)], Hd2⟩
      ·(try simp only [aH] at h10)
       have hd := h10
       refine aP (aj (ay (ah (aU rfl (aA (aj (aJ (aI (.inl rfl) results14 rfl ?_))))))))
       exact ⟨by rw [qQ hc (by rintro (h9 | ⟨h9 | h9 | h9, h8⟩) <;> first | omega | exact absurd h9 (by assumption))], Hd2⟩
     ·(try simp only [aH] at h9)
      refine bD (bD (bD (bf (fG rfl rfl (fG rfl rfl (aA (aj (oK (aP (aj (ay (ah (aU rfl (aA (aj (aJ (aI (.inl rfl) results14 rfl ?_)))))))))))))))))
      exact ⟨by rw [qQ hc (by rintro (h9 | ⟨h9 | h9 | h9, h8⟩) <;> first | omega | exact absurd h9 (by assumption))], Hd2⟩
theorem kM {fv : Value} (H : aB w0 w (dw e s • F)) (hi : s.dN = false) (q1 : gJ w0 F .i32 kv keys) (hn : yh name = some fv) (hw : qp name keys.length = 0) (hf : Py w0 fv keys s.bF x t) :
  fA prog 11 #[.pointer (some ⟨e, 0, none⟩), .string name, kv] w fun v w' => v = .int .i64 (t.pY x) ∧ aB w0 w' (dw e (t.iC x) • F) := by
 have hcv := Vf name
 have hnn : wY ((yh name).getD .nilFunc) = false := by obtain ⟨k, -, rfl⟩ := Ep hn; rw [hn]; rfl
 refine fU func11 ntmps11 ?_
 dsimp only [aY, Nat.reduceAdd]
 refine ay (ah (aU rfl (aA (aj (ay (ay (ah (aO rfl (bZ rfl func24 (D5 H (by assumption)) ?_)))))))))
 rintro _ w1 ⟨cl1, rfl, H1⟩
 refine aW (eu underlying26 rfl rfl) (aA (aj (aN rfl (fun h => by exfalso; (try simp only [aH] at h); simp at h) (fun h1 => ?_))))
 (try simp only [aH] at h1)
 refine aP (aj (ay (ah (bZ rfl func25 (yj H1) ?_))))
 rintro _ w2 ⟨bM2, rfl, H2⟩
 refine aO rfl (aW (Bv (H2) underlying72 underlying9 zeroValue71 rfl rfl) ?_)
 have WJ := H2.right
 refine aU rfl (aA (aj (ay (ay (ah (aO rfl ?_))))))
 refine aW (BD underlying71 rfl rfl (by assumption)) ?_
 refine aA (aj (aN rfl (fun h => by exfalso; (try simp only [aH] at h); rw [hnn] at h; simp at h) (fun h2 => ?_)))
 (try simp only [aH] at h2)
 refine aP (aj (ay (ay (ah (aO rfl (aO rfl (bZ rfl func14 (Gl WJ (fun W HW => q1 _ (HW.right))) ?_)))))))
 rintro _ w4 ⟨rfl, H4⟩
 refine aW (dK rfl rfl) (aA (aj (aN rfl (fun h => by exfalso; (try simp only [aH] at h); exact h hw) (fun h3 => ?_))))
 (try simp only [aH] at h3)
 refine aP (aj (ay (ay (ah (aO rfl (bZ rfl func26 (yI H4) ?_))))))
 rintro _ w5 ⟨rfl, H5⟩
 refine aU rfl (aA (aj (ay (ah (aO rfl (aW (dK rfl rfl) (aA (aj (aN rfl (fun h => by exfalso; (try simp only [aH] at h); exact h (by unfold aZ.zk; rw [if_neg (by simp [hi])])) (fun h4 => ?_))))))))))
 (try simp only [aH] at h4)
 refine aP (aj (ay (ah (aO rfl (bZ rfl func21 (jo H5) ?_)))))
 rintro _ w6 ⟨u6, rfl, H6⟩
 refine ji (fV (l := [_, _, _]) H6 zeroValue53 rfl) ?_
 rintro _ w7 ⟨b7, rfl, H7⟩
 refine aG (cZ 0 (l' := [_, _, _]) (us := [_, _, _]) H7 sizeOf53 rfl rfl rfl (aC (by first | rfl | exact Rd.one ((H7.f2).aT)) (aC (by first | rfl | assumption) (aC (by first | rfl | assumption) bU))) rfl rfl) ?_
 rintro _ w8 H8
 refine aA (aj (ay ?_))
 have SB := H8.drew
 have nT := aB.kp (SB.f3.right.f2.f2)
 refine yQ [4, 6, 8] nT rfl (iE 0 rfl nT rfl (iE 1 rfl nT rfl (iE 2 rfl nT rfl (gG 3 rfl nT 0 underlying53 rfl sizeOf22 rfl (je 4 rfl nT (fun W hW => jE underlying22 rfl ((Kp.h hW)).get.2 rfl) (gG 5 rfl nT 1 underlying53 rfl sizeOf3 rfl (je 6 rfl nT (fun W hW => jE underlying3 rfl ((Kp.h hW)).get.2 rfl) (gG 7 rfl nT 2 underlying53 rfl sizeOf3 rfl (je 8 rfl nT (fun W hW => jE underlying3 rfl ((Kp.h hW)).get.2 rfl) (iE 9 rfl nT rfl (iE 11 rfl nT rfl (iE 13 rfl nT rfl (jQ 10 rfl (wK rfl func28 (F8 SB.f3)) ?_)))))))))))))
 rintro _ w9 ⟨rfl, H9⟩
 have Jv := aB.kp (H9.right.f2.f2)
 refine dP Jv (fun W hW => (Kp.h hW).f2.f2) ?_
 refine jQ 12 rfl (wK rfl func29 (F9 H9)) ?_
 rintro _ w10 ⟨rfl, mJ⟩
 have Ez := aB.kp (mJ.f3.f3.f3)
 refine dP Ez (fun W hW => (Kp.h hW).right.f2.f2) ?_
 refine jc 14 rfl Ez (fun _ => eH (zl := [.pointer none, .slice none 0 0, .int .i64 0, .int .i64 0, .int .i64 0, .bool false, .slice none 0 0]) (pl := [(0, 1), (1, 1), (2, 1), (3, 1), (4, 1), (5, 1), (6, 1)]) [_, _, _, _, _, _, _] underlying79 zeroValue79 rfl (fun w => by kernel_rfl) rfl (.one (by first | rfl | assumption) (.one (Rd.one ((mJ.f3).aT)) (.one (by first | rfl | assumption) (.one (by first | rfl | assumption) (.one (by first | rfl | assumption) (.one (by first | rfl | assumption) (.one (Rd.one (q1 _ (mJ.right.right.right))) .nil))))))) rfl) ?_
 refine jQ 15 rfl (iG (l := [_, _, _, _, _, _, _]) mJ rfl rfl) ?_
 rintro _ He ⟨b11, rfl, uO⟩
 have Ey := aB.kp (uO.f4.f4.f4.f4)
 refine fF Ey (by kernel_rfl) ?_
 refine jQ 16 rfl (rO rfl rfl ((by rw [hn]; exact hf _ _ _ _ _ _ uO.f3.right.f2.f3.f3 q1))) ?_
 rintro _ w12 ⟨rfl, wE⟩
 have yC := aB.kp (wE.f3.f3.f3)
 refine fF yC (by kernel_rfl) ?_
 refine jQ 17 rfl (wK rfl func27 (Dk wE.f3)) ?_
 rintro _ ND ⟨rfl, vY⟩
 have wO := aB.kp (vY.f3.f3.f3)
 refine fF wO (by kernel_rfl) ?_
 refine jc 18 rfl wO (fun _ => fO rfl) (pU (aj (aJ (aI (.inl rfl) results11 rfl ?_))))
 exact ⟨rfl, vY.f2.right.f2.right⟩
end
end Go.Proofs.YtgndbccogcofjaaGreatDoor
end
section
namespace Go.Proofs.YtgndbccogcofjaaGreatDoor
open Go.RowKit
open _root_.Go.Proofs.Tryz
def aZ.rF (s : aZ) (l : List Int) : Int := if s.dN then 1 else if 1024 < l.length then 3 else 0
def aZ.Gm (s : aZ) (hl : List oG) (base most : Int) (l : List Int) : aZ := if s.rF l = 0 then s.start hl base most l else s
theorem Pz {s : aZ} (h : jJ s) (hi : s.dN = false) (hl : List oG) (base most : Int) (l : List Int) : jJ (s.start hl base most l) := by
  obtain ⟨h1, h2, h3, h4, h5, h6⟩ := h
  refine ⟨Iz _ _ _ _ _, fun h => absurd (show s.dN = true from h) (by rw [hi]; decide), ⟨by show (-1 : Int) ≤ -1; decide, by show (-1 : Int) ≤ 1000000; decide⟩, h4, ?_, by simp [aZ.start, kN.fresh]⟩
  show dR [] s.put ≤ 16384
  unfold dR at *; simp at *; omega
section
variable {w0 w : World} {F : HP} {e p h pr : Nat} {s : aZ} {hl : List oG} {base most m : Int} {v : Value} {l : List Int}
theorem yM (H : aB w0 w (dw e s • eG h hl base most • F)) (hr : gJ w0 F .i32 v l) : fA prog 41 #[.pointer (some ⟨e, 0, none⟩), .pointer (some ⟨h, 0, none⟩), v] w fun v' w' =>
  v' = .int .i64 (s.rF l) ∧ aB w0 w' (dw e (s.Gm hl base most l) • eG h hl base most • F) := by
 unfold aZ.Gm
 refine fU func41 ntmps41 ?_
 dsimp only [aY, Nat.reduceAdd]
 refine ay (ah (aU rfl (aA (aj (ay (bC (ay (ah (aO rfl (bZ rfl func32 (ku H) ?_))))))))))
 rintro _ _ ⟨rfl, rfl⟩
 refine aO rfl (bf (aO rfl (bf (bZ rfl func45 (mF H.f2) ?_))))
 rintro _ w2 ⟨q2, rfl, H2⟩
 refine bf (aW (eu underlying33 rfl rfl) (fG rfl rfl (aU rfl (aA (aj (aN rfl (fun h => by exfalso; (try simp only [aH] at h); simp at h) (fun h1 => ?_)))))))
 (try simp only [aH] at h1)
 refine ay ?_
 have WJ := H2.right
 obtain ⟨qy, qA, qB, qC, qE, qF, qG, qH, oH, mP, mQ, mV, mW, mX, mY, mZ, ng, ni, ny, nC, dD, bG, fZ, dG⟩ := (WJ.f2).AA
 refine ah (aO rfl (bP rfl (bg 16 underlying37 rfl sizeOf4 rfl (dS underlying4 rfl (dG).get.2 rfl (aU rfl (aA (aj (aN rfl (fun h2 => ?_) (fun h2 => ?_)))))))))
 ·(try simp only [aH] at h2)
  have hin := h2
  have hE : s.rF l = 1 := by unfold aZ.rF; rw [if_pos hin]
  refine ay (ah (aU rfl (aA (aj (aJ (aV (aK (aI (.inl rfl) results41 rfl ?_))))))))
  have TS := dG.f11.f11.f11.f11.f11.f11.f11.f11.f11.f11.f11
  have TT := aB.dF (s := s) dD bG TS
  exact ⟨by rw [hE], by rw [if_neg (by rw [hE]; decide)]; exact TT.f2.f2⟩
 ·(try simp only [aH] at h2)
  have hin : s.dN = false := by simpa using h2
  refine ay (ah (aO rfl (aW (gY (hr _ (dG.right.right.right.right.right.right.right.right.right.right.right.right)) underlying22 rfl) (aW (dn rfl rfl) (aU rfl (aA (aj (aN rfl (fun h3 => ?_) (fun h3 => ?_)))))))))
  ·(try simp only [aH] at h3)
   have hbig := h3
   have hE : s.rF l = 3 := by unfold aZ.rF; rw [if_neg (by simp [hin]), if_pos (by omega)]
   refine ay (ah (aU rfl (aA (aj (aJ (aV (aK (aI (.inl rfl) results41 rfl ?_))))))))
   have Ho9 := dG.f11.f11.f11.f11.f11.f11.f11.f11.f11.f11.f11
   have Zu := aB.dF (s := s) dD bG Ho9
   exact ⟨by rw [hE], by rw [if_neg (by rw [hE]; decide)]; exact Zu.f2.f2⟩
  ·(try simp only [aH] at h3)
   have hE : s.rF l = 0 := by unfold aZ.rF; rw [if_neg (by simp [hin]), if_neg (by have h9 := h3; omega)]
   have hsh : l.length ≤ 1024 := by have h9 := h3; omega
   refine aP (aS (aj (ay (ah (aO rfl (aO rfl (aO rfl (bZ rfl func110 (wU (E := s.c.E) (a := s.c.at_) dG.f2.right.f3.right.f3.right.f3.right.f3.right.f6.f6.f6.f6.f6.f7.f7 (fun W HW => hr W HW.right.right.right.right.right) hsh) ?_))))))))
   rintro _ He ⟨qb, qw, qt, qm, qh, uO⟩
   refine aA (aj (ay (ah (aU rfl (aA (aj (aJ (aI (.inl rfl) results41 rfl ?_))))))))
   exact ⟨by rw [hE], by rw [if_pos hE]; exact aB.dF (s := s.start hl base most l) (Pz dD hin _ _ _ _) bG uO.f7.f12.f12.f12.f12.f11.f11.f11.f11.f12.f12.f12⟩
end
end Go.Proofs.YtgndbccogcofjaaGreatDoor
end
section
namespace Go.Proofs.YtgndbccogcofjaaGreatDoor
open Go.RowKit
open _root_.Go.Proofs.Tryz
def vM (l : List oG) : Int := if l.any (fun x => decide (16384 < x.1.size)) then 3 else if l.any (fun x => decide (x.2 < 0)) then 1 else 0
theorem PD {l : List oG} {k : Nat} (hk : k < l.length) : l.getD k default ∈ l := by rw [List.getD_eq_getElem?_getD, List.getElem?_eq_getElem hk]; exact List.getElem_mem hk
theorem PE {l : List oG} {p : oG → Prop} (h : ∀ k, k < l.length → p (l.getD k default)) : ∀ x ∈ l, p x := by
  intro x hx
  obtain ⟨k, hk, rfl⟩ := List.getElem_of_mem hx
  have := h k hk
  rwa [List.getD_eq_getElem?_getD, List.getElem?_eq_getElem hk] at this
theorem Np {l : List oG} {k : Nat} (hk : k < l.length) (h : (16384 : Int) < (l.getD k default).1.size) : vM l = 3 := by
  unfold vM
  rw [if_pos (List.any_eq_true.2 ⟨_, PD hk, decide_eq_true (by omega)⟩)]
theorem Dn {l : List oG} (h1 : ∀ k, k < l.length → ¬ (16384 : Int) < (l.getD k default).1.size) : vM l = if l.any (fun x => decide (x.2 < 0)) then 1 else 0 := by
  unfold vM
  rw [if_neg]
  intro c
  obtain ⟨x, hx, hd⟩ := List.any_eq_true.1 c
  have := PE (p := fun x => ¬ (16384 : Int) < x.1.size) h1 x hx
  simp at hd; omega
theorem PG {l : List oG} (h1 : ∀ k, k < l.length → ¬ (16384 : Int) < (l.getD k default).1.size) {k : Nat} (hk : k < l.length) (h : (l.getD k default).2 < 0) : vM l = 1 := by
  rw [Dn h1, if_pos (List.any_eq_true.2 ⟨_, PD hk, by simpa using h⟩)]
theorem Q5 {l : List oG} (h1 : ∀ k, k < l.length → ¬ (16384 : Int) < (l.getD k default).1.size) (h2 : ∀ k, k < l.length → ¬ (l.getD k default).2 < 0) : vM l = 0 := by
  rw [Dn h1, if_neg]
  intro c
  obtain ⟨x, hx, hd⟩ := List.any_eq_true.1 c
  exact PE (p := fun x => ¬ x.2 < 0) h2 x hx (by simpa using hd)
theorem PI {l : List oG} (h : vM l = 0) : ∀ x ∈ l, VH x := by
  intro x hx
  unfold vM at h
  split at h
  · simp at h
  · rename_i h1
    split at h
    · simp at h
    · rename_i h2
      simp only [List.any_eq_true, not_exists, not_and, decide_eq_true_eq] at h1 h2
      exact ⟨by have := h1 x hx; omega, by have := h2 x hx; omega⟩
theorem Lu (l : List oG) (n : Nat) : (l.flatMap kT).drop (n * 2) = (l.drop n).flatMap kT := by
  induction l generalizing n with
  | nil => simp
  | cons x l ih =>
    cases n with
    | zero => simp
    | succ n => rw [show (n + 1) * 2 = n * 2 + 2 from by omega, List.flatMap_cons, List.drop_succ_cons, ← ih n]; simp [kT, List.drop_append]
theorem Q7 (l : List oG) : (l.flatMap kT).length = l.length * 2 := by induction l with
  | nil => rfl
  | cons x l ih => rw [List.flatMap_cons, List.length_append, ih, zi, List.length_cons]; omega
theorem Q8 {W : World} {v : Value} {l : List oG} {n : Nat} (h : Rd W 2 v l.length (l.flatMap kT)) (hn : n ≤ l.length) : Rd W 2 (lT 2 n l.length v) (l.drop n).length ((l.drop n).flatMap kT) := by
  have h1 := h.cut hn (Nat.le_refl _)
  rw [List.take_of_length_le (by rw [Lu, Q7]; simp), Lu] at h1
  rwa [List.length_drop]
section
variable {P : Program} {L : List (Nat × Value)} {w0 w : World} {F : HP} {p : Nat} {hl l : List oG} {base most : Int} {v : Value}
theorem Gn (H : aB w0 w F) (hv : I8 w0 F 2 v l.length (l.flatMap kT)) (hb : l.length ≤ 35184372087808) : fA prog 182 #[v] w fun v' w' => v' = .int .i64 (vM l) ∧ aB w0 w' F := by
 refine fU func182 ntmps182 ?_
 dsimp only [aY, Nat.reduceAdd]
 refine ay (ah (aU rfl (aA (aj (ay (ay (ah (aO rfl (aW (iH (hv _ (H)) underlying47 rfl) (aO rfl (aA (aj (bC ?_)))))))))))))
 refine ig [(0, _), (7, _), (8, _)] (fun (k : Nat) => [(9, .int .i64 (k : Int))]) (fun (k : Nat) W => (k ≤ l.length ∧ ∀ i, i < k → ¬ (16384 : Int) < (l.getD i default).1.size) ∧ aB w0 W F) (fun (k : Nat) => l.length - k) (0) (Sub.cons rfl (Sub.cons rfl (Sub.cons rfl (Sub.nil _)))) (Sub.cons rfl (Sub.nil _)) ⟨⟨by omega, fun i hi => absurd hi (by omega)⟩, H⟩ ?_
 rintro k w1 ⟨⟨hk, hsh⟩, HL⟩
 dsimp only [List.cons_append, List.nil_append]
 refine ay (ah (aW (fE rfl rfl) (aA (aj (ay (aN rfl (fun h1 => ?_) (fun h1 => ?_)))))))
 ·(try simp only [aH] at h1)
  refine aP (aj (ay (bC (ay ?_))))
  have hkl : k < l.length := by omega
  refine ah ?_
  obtain ⟨bv, ov, cv, ev⟩ := Rd.Bh (hv _ (HL)) (by omega)
  cases ev
  refine aW (iZ underlying47 sizeOf128 rfl rfl (by omega)) (aW (jW (ys := [_, _]) (hv _ (HL)) (by omega) underlying128 rfl sizeOf128 rfl (nO zi (by omega) default) rfl) (ji (fV (l := [_, _]) HL zeroValue128 rfl) ?_))
  rintro _ w2 ⟨b2, rfl, H2⟩
  refine aG (cZ 0 (l' := [_, _]) (us := [_, _]) H2 sizeOf128 rfl rfl rfl (aC (by first | rfl | assumption) (aC (by first | rfl | assumption) bU)) rfl rfl) ?_
  rintro _ w3 H3
  refine aA (aj (ay (ah (bg 0 underlying128 rfl sizeOf9 rfl (dS underlying9 rfl (H3).get.2 rfl (aW (LZ underlying9 rfl) (aW (dn rfl rfl) (aA (aj (aN rfl (fun h2 => ?_) (fun h2 => ?_)))))))))))
  ·(try simp only [aH] at h2)
   have hkb := h2
   refine ay (ah (aU rfl (aA (aj (aJ (aV (aK (aK (aV (aK (aI (.inl rfl) results182 rfl ?_)))))))))))
   exact ⟨by rw [Np hkl hkb], H3.right⟩
  ·(try simp only [aH] at h2)
   have hks : ¬ (16384 : Int) < (l.getD k default).1.size := by have h9 := h2; omega
   refine aP (aS (aj (ah (aW (fP rfl rfl (by omega)) (aO rfl (aA ?_))))))
   refine fD (k + 1) ?_ ?_ ?_ ?_
   ·exact (Sub.cons rfl (Sub.nil _))
   ·exact (Sub.cons rfl (Sub.cons rfl (Sub.cons rfl (Sub.nil _))))
   ·(try dsimp only)
    first | done | exact ⟨⟨by omega, fun i hi => (show i < k ∨ i = k from by omega).elim (hsh i) (fun c => c ▸ hks)⟩, H3.right⟩
   ·(try dsimp only); omega
 ·(try simp only [aH] at h1)
  refine eU (aX (aX (bV (aj (ay (ay ?_))))))
  obtain rfl : k = l.length := by omega
  refine ah (aO rfl (aW (iH (hv _ (HL)) underlying47 rfl) (aO rfl (aA (aj (bC ?_))))))
  refine ig [(18, _), (19, _)] (fun (k2 : Nat) => [(20, .int .i64 (k2 : Int))]) (fun (k2 : Nat) W => (k2 ≤ l.length ∧ ∀ i, i < k2 → ¬ (l.getD i default).2 < 0) ∧ aB w0 W F) (fun (k2 : Nat) => l.length - k2) (0) (Sub.cons rfl (Sub.cons rfl (Sub.nil _))) (Sub.cons rfl (Sub.nil _)) ⟨⟨by omega, fun i hi => absurd hi (by omega)⟩, HL⟩ ?_
  rintro k2 w4 ⟨⟨hk2, hpo⟩, HL2⟩
  dsimp only [List.cons_append, List.nil_append]
  refine ay (ah (aW (fE rfl rfl) (aA (aj (ay (aN rfl (fun h3 => ?_) (fun h3 => ?_)))))))
  ·(try simp only [aH] at h3)
   refine aP (aj (ay (bC (ay ?_))))
   have hkl2 : k2 < l.length := by omega
   refine ah ?_
   obtain ⟨bv, ov, cv, ev⟩ := Rd.Bh (hv _ (HL2)) (by omega)
   cases ev
   refine aW (iZ underlying47 sizeOf128 rfl rfl (by omega)) (aW (jW (ys := [_, _]) (hv _ (HL2)) (by omega) underlying128 rfl sizeOf128 rfl (nO zi (by omega) default) rfl) (ji (fV (l := [_, _]) HL2 zeroValue128 rfl) ?_))
   rintro _ w5 ⟨b5, rfl, H5⟩
   refine aG (cZ 0 (l' := [_, _]) (us := [_, _]) H5 sizeOf128 rfl rfl rfl (aC (by first | rfl | assumption) (aC (by first | rfl | assumption) bU)) rfl rfl) ?_
   rintro _ w6 H6
   refine aA (aj (ay (ah (bg 1 underlying128 rfl sizeOf2 rfl (dS underlying2 rfl (H6).get.2 rfl (aW (fE rfl rfl) (aA (aj (aN rfl (fun h4 => ?_) (fun h4 => ?_))))))))))
   ·(try simp only [aH] at h4)
    have hkn := h4
    refine ay (ah (aU rfl (aA (aj (aJ (aV (aK (aK (aV (aK (aI (.inl rfl) results182 rfl ?_)))))))))))
    exact ⟨by rw [PG hsh hkl2 hkn], H6.right⟩
   ·(try simp only [aH] at h4)
    have hkp : ¬ (l.getD k2 default).2 < 0 := by have h9 := h4; omega
    refine aP (aS (aj (ah (aW (fP rfl rfl (by omega)) (aO rfl (aA ?_))))))
    refine fD (k2 + 1) ?_ ?_ ?_ ?_
    ·exact (Sub.cons rfl (Sub.nil _))
    ·exact (Sub.cons rfl (Sub.cons rfl (Sub.nil _)))
    ·(try dsimp only)
     first | done | exact ⟨⟨by omega, fun i hi => (show i < k2 ∨ i = k2 from by omega).elim (hpo i) (fun c => c ▸ hkp)⟩, H6.right⟩
    ·(try dsimp only); omega
  ·(try simp only [aH] at h3)
   refine eU (aX (aX (bV (aj (ay ?_)))))
   obtain rfl : k2 = l.length := by omega
   refine ah (aU rfl (aA (aj (aJ (aI (.inl rfl) results182 rfl ?_)))))
   exact ⟨by rw [Q5 hsh hpo], HL2⟩
def nI (hl : List oG) (most : Int) : Nat := hl.length - most.toNat
theorem zx (H : aB w0 w (dB p (.cells #[v, .int .i64 base, .int .i64 most] 132 (0, 0)) • Row 128 2 v hl.length (hl.flatMap kT) • F)) (hm : 0 ≤ most ∧ most ≤ 4096) (hb : 1 ≤ base ∧ base ≤ 2305843009213693952) (hn : hl.length ≤ 70368744177664) :
  fA prog 183 #[.pointer (some ⟨p, 0, none⟩)] w fun _ w' => ∃ v', aB w0 w' (dB p (.cells #[v', .int .i64 (base + nI hl most), .int .i64 most] 132 (0, 0)) • Row 128 2 v' (hl.drop (nI hl most)).length ((hl.drop (nI hl most)).flatMap kT) • F) := by
 refine fU func183 ntmps183 ?_
 dsimp only [aY, Nat.reduceAdd]
 refine ay ?_
 have Nq := H.drew
 have qR := aB.kp (Nq.f2.f2)
 refine yQ [4, 10] qR rfl (iE 0 rfl qR rfl (jF 1 rfl qR rfl (gG 2 rfl qR 0 underlying132 rfl sizeOf130 rfl (gG 3 rfl qR 0 underlying130 rfl sizeOf47 rfl (je 4 rfl qR (fun W hW => jE underlying47 rfl ((Kp.h hW)).get.2 rfl) (jc 5 rfl qR (fun _ => iH ((Nq.f2).aT) underlying47 rfl) (iE 6 rfl qR rfl (jF 7 rfl qR rfl (gG 8 rfl qR 0 underlying132 rfl sizeOf130 rfl (gG 9 rfl qR 2 underlying130 rfl sizeOf3 rfl (je 10 rfl qR (fun W hW => jE underlying3 rfl ((Kp.h hW)).get.2 rfl) (jc 11 rfl qR (fun _ => iq rfl rfl (by omega)) (jc 12 rfl qR (fun _ => fO rfl) (pU (aj (ay (ah (aO rfl (aW (dn rfl rfl) (aA (aj (aN rfl (fun h1 => ?_) (fun h1 => ?_)))))))))))))))))))))))
 ·(try simp only [aH] at h1)
  have hk : (nI hl most : Int) = (hl.length : Int) - most := by have h9 := h1; unfold nI; omega
  refine ay (ah (aO rfl (aO rfl (bP rfl (bg 0 underlying132 rfl sizeOf130 rfl (bg 0 underlying130 rfl sizeOf47 rfl (dS underlying47 rfl (Nq).get.2 rfl (aO rfl (aW (Bj ((Nq.f2).aT) underlying47 sizeOf128 rfl rfl rfl (by omega)) (bZ rfl func118 (yE (hl := hl.drop (nI hl most)) Nq (fun W HW => by rw [show ((hl.length : Int) - most).toNat = nI hl most from by omega, show ((hl.length : Nat) : Int).toNat = hl.length from by omega]; exact Q8 HW.f2.aT (by unfold nI; omega)) (by rw [List.length_drop]; unfold nI; omega)) ?_))))))))))
  rintro u1 w1 H1
  refine bP rfl (bg 0 underlying132 rfl sizeOf130 rfl (bg 0 underlying130 rfl sizeOf47 rfl (aG (aQ 0 (l' := [_, _, _]) H1.f2 sizeOf47 rfl rfl (by first | rfl | exact Rd.one ((H1).aT)) rfl rfl) ?_)))
  rintro _ w2 H2
  refine aA (aj (ah (aO rfl (bP rfl (bg 0 underlying132 rfl sizeOf130 rfl (bg 1 underlying130 rfl sizeOf2 rfl (dS underlying2 rfl (H2).get.2 rfl (aO rfl (aW (fP rfl rfl (by omega)) (bP rfl (bg 0 underlying132 rfl sizeOf130 rfl (bg 1 underlying130 rfl sizeOf2 rfl (aG (aQ 1 (l' := [_, _, _]) H2 sizeOf2 rfl rfl (by first | rfl | assumption) rfl rfl) ?_)))))))))))))
  rintro _ w3 H3
  refine aA (fM (.inr rfl) results183 ?_)
  exact ⟨_, by rw [hk]; exact H3.f3.right.f2.f2⟩
 ·(try simp only [aH] at h1)
  have hk : nI hl most = 0 := by have h9 := h1; unfold nI; omega
  refine aP (fM (.inr rfl) results183 ?_)
  exact ⟨_, by rw [hk]; simpa using Nq⟩
theorem WM {hl l : List oG} {base most : Int} (h : VI hl base most) (hb : hl.length + l.length ≤ 5864062014805) (hm : vM l = 0) (hbase : base ≤ 1152921504606846976) : VI ((hl ++ l).drop (nI (hl ++ l) most)) (base + nI (hl ++ l) most) most := by
  obtain ⟨h1, h2, h3, h4, h5, h6⟩ := h
  have hl1 : (hl ++ l).length = hl.length + l.length := List.length_append
  refine ⟨?_, ?_, ?_, ?_, h5, fun x hx => ?_⟩
  · rw [List.length_drop]; unfold nI; omega
  · omega
  · unfold nI; omega
  · rw [List.length_drop]; unfold nI; omega
  · rcases List.mem_append.1 (List.mem_of_mem_drop hx) with c | c
    · exact h6 x c
    · exact PI hm x c
def PK (hl : List oG) (most : Int) (l : List oG) : List oG := if vM l = 0 then (hl ++ l).drop (nI (hl ++ l) most) else hl
def PL (hl : List oG) (base most : Int) (l : List oG) : Int := if vM l = 0 then base + nI (hl ++ l) most else base
theorem Gp (H : aB w0 w (eG p hl base most • F)) (hv : I8 w0 F 2 v l.length (l.flatMap kT)) (hb : hl.length + l.length ≤ 5864062014805) (hbase : base ≤ 1152921504606846976) :
  fA prog 108 #[.pointer (some ⟨p, 0, none⟩), v] w fun v' w' => v' = .int .i64 (vM l) ∧ aB w0 w' (eG p (PK hl most l) (PL hl base most l) most • F) := by
 refine fU func108 ntmps108 ?_
 dsimp only [aY, Nat.reduceAdd]
 refine ay (ah (aU rfl (aA (aj (ay (ay (ah (aO rfl (bZ rfl func117 (rC H) ?_)))))))))
 rintro _ _ ⟨rfl, rfl⟩
 refine aA (aj (oK (aP (aj (ay (ay (ah (aO rfl (bZ rfl func182 (Gn H (fun W HW => hv _ (HW.right)) (by omega)) ?_)))))))))
 rintro _ w2 ⟨rfl, H2⟩
 refine aU rfl (aA (aj (ay (ah (aO rfl (aW (dK rfl rfl) (aA (aj (aN rfl (fun h1 => ?_) (fun h1 => ?_))))))))))
 ·(try simp only [aH] at h1)
  have hm := h1
  refine ay (ah (aO rfl (aU rfl (aA (aj (aJ (aK (aI (.inl rfl) results108 rfl ?_))))))))
  exact ⟨rfl, by unfold PK PL; rw [if_neg hm, if_neg hm]; exact H2⟩
 ·(try simp only [aH] at h1)
  have hm : vM l = 0 := h1
  refine aP (aj (ay ?_))
  obtain ⟨TR, xq, CQ⟩ := (H2).hist
  have hkl := xq.1
  have hon := @KR l
  refine ah (aO rfl (aO rfl (bP rfl (bg 0 underlying132 rfl sizeOf130 rfl (bg 0 underlying130 rfl sizeOf47 rfl (dS underlying47 rfl (CQ).get.2 rfl (aO rfl (ji (gX CQ.f2 underlying47 (show (prog.info? 128).map (fun i => (i.zero, i.size, i.bytes)) = some (some (.agg #[.string .empty, .int .i64 0]), 2, 24) by kernel_rfl) rfl rfl rfl (hv _ (CQ.right.right)) (by assumption) (by omega) (by omega)) ?_))))))))
  rintro l4 w4 H4
  refine bP rfl (bg 0 underlying132 rfl sizeOf130 rfl (bg 0 underlying130 rfl sizeOf47 rfl (aG (aQ 0 (l' := [_, _, _]) H4.f2 sizeOf47 rfl rfl (by first | rfl | exact Rd.one ((H4).aT)) rfl rfl) ?_)))
  rintro _ w5 H5
  refine aA (aj (ay (ah (aO rfl (bZ rfl func183 (zx (hl := hl ++ l) (by rw [List.flatMap_append, List.length_append]; exact H5.f2.f2) ⟨by have := xq.2.2.2.1; omega, xq.2.2.2.2.1⟩ ⟨xq.2.1, by omega⟩ (by have := xq.1; rw [List.length_append]; omega)) ?_)))))
  rintro _ w6 ⟨v2, H6⟩
  refine aA (aj (ay (ah (aU rfl (aA (aj (aJ (aI (.inl rfl) results108 rfl ?_))))))))
  exact ⟨by rw [hm], by unfold PK PL; rw [if_pos hm, if_pos hm]; exact aB.ug (WM xq hb hm hbase) H6⟩
theorem vN {n : Int} (H : aB w0 w F) (hn : 0 ≤ n ∧ n ≤ 4096) (hv : I8 w0 F 2 v l.length (l.flatMap kT)) (hb : l.length ≤ 5864062014805) (hm : vM l = 0) : fA prog 39 #[.int .i64 n, v] w fun v' w' =>
  ∃ p, v' = .tuple #[.pointer (some ⟨p, 0, none⟩), .int .i64 0] ∧ aB w0 w' (eG p (PK [] n l) (PL [] 1 n l) n • F) := by
 refine fU func39 ntmps39 ?_
 dsimp only [aY, Nat.reduceAdd]
 refine ay (ah (aU rfl (aU rfl (aA (aj (ay (ah (aO rfl (bZ rfl func107 (FZ H (by omega)) ?_)))))))))
 rintro _ w1 ⟨p1, rfl, H1⟩
 refine aO rfl (Ar rfl rfl (Ar rfl rfl (aU rfl (aU rfl (aA (aj (ay (ay (ah (aO rfl (aW (dK rfl rfl) (aA (aj (aN rfl (fun h => by exfalso; (try simp only [aH] at h); simp at h) (fun h1 => ?_)))))))))))))))
 (try simp only [aH] at h1)
 refine aP (aj (ay (ay (ah (aO rfl (aO rfl (bZ rfl func108 (Gp H1 hv (by simp; omega) (by decide)) ?_)))))))
 rintro _ w2 ⟨rfl, H2⟩
 refine aU rfl (aA (aj (ay (ah (aO rfl (aW (dK rfl rfl) (aA (aj (aN rfl (fun h => by exfalso; (try simp only [aH] at h); exact h hm) (fun h2 => ?_))))))))))
 (try simp only [aH] at h2)
 refine aP (aj (ay (ah (aO rfl (aU rfl (aU rfl (aA (aj (aJ (kX (.inl rfl) results39 rfl rfl ?_))))))))))
 exact ⟨_, rfl, H2⟩
end
def EN (l : List oG) : List oG := PK [] 4096 l
def EO (l : List oG) : Int := PL [] 1 4096 l
end Go.Proofs.YtgndbccogcofjaaGreatDoor
end
section
namespace Go.Proofs.YtgndbccogcofjaaGreatDoor
open Go.RowKit
structure Out (s : aZ) (L : List Int) (pt : Int) (G : List (List dU)) (run : Bool) : Prop where
  dN : s.dN = false
  L : s.c.L = L
  pt : s.c.pt = pt
  G : s.c.un s.c.place = G
  run : s.c.run = run
  over : s.c.over = false
structure SC (s : aZ) (L : List Int) (pt : Int) (G : List (List dU)) (run : Bool) : Prop where
  dN : s.dN = true
  L : s.c.L = L
  pt : s.c.pt = pt
  G : s.c.un s.c.place = G
  run : s.c.run = run
  over : s.c.over = false
  put : s.put = []
  cls : s.cls = 0
  whole : s.whole = true
section
variable {s : aZ} {L : List Int} {pt : Int} {G : List (List dU)} {run : Bool} {r : Int}
theorem Out.begin (h : Out s L pt G run) : SC s.bF L pt G run ∧ s.zk = 0 := by
  unfold aZ.bF aZ.zk
  rw [if_neg (by rw [h.dN]; decide), if_neg (by rw [h.dN]; decide)]
  exact ⟨⟨rfl, h.L, h.pt, h.G, h.run, h.over, rfl, rfl, rfl⟩, rfl⟩
def IX (G : List (List dU)) (run : Bool) (x : dU) : List (List dU) := if run then (match G.getLast? with | some g => G.dropLast ++ [g ++ [x]] | none => [[x]]) else G ++ [[x]]
theorem SC.SE (h : SC s L pt G run) (h1 : 0 ≤ pt ∧ pt ≤ L.length) (h2 : L.length < 1024) (h3 : dR G [] < 16384) :
    s.OT [r] = 0 ∧ s.wR [r] = { (s.iD (L.take pt.toNat ++ [r] ++ L.drop pt.toNat) (pt + 1) (lX L s.c.mark pt pt [r])) with put := [(pt, [], [r])], cls := 3 } := by
  have hto : s.zn [r] = pt := by unfold aZ.zn; rw [h.over]; exact h.pt
  have hE : iU L pt pt [r] = 0 := by unfold iU; rw [if_neg (by omega), if_neg (by simp; omega)]
  have hE' : s.jY s.c.pt (s.zn [r]) [r] = 0 := by unfold aZ.jY; rw [if_pos h.dN, hto, h.pt, h.L]; exact hE
  have hP : lI L pt pt pt [r] = pt + 1 := by unfold lI bI; rw [if_pos hE, if_neg (by omega), if_pos (by omega)]; rfl
  have hD : jk L pt pt [r] = [] := by unfold jk; rw [if_pos hE]; simp
  have hI : jl L pt pt [r] = [r] := by unfold jl; rw [if_pos hE]
  have hA : nG L pt pt [r] = pt := by unfold nG; rw [if_pos hE]
  have hL : lH L pt pt [r] = L.take pt.toNat ++ [r] ++ L.drop pt.toNat := by unfold lH; rw [if_pos hE]
  have hS : s.iV s.c.pt (s.zn [r]) [r] = { (s.iD (L.take pt.toNat ++ [r] ++ L.drop pt.toNat) (pt + 1) (lX L s.c.mark pt pt [r])) with put := [(pt, [], [r])] } := by
    unfold aZ.iV
    rw [if_pos h.dN, hto, h.pt, h.L, hP, hD, hI, hA, hL]
    unfold aZ.kU
    rw [if_neg (by simp), if_neg (by
      show ¬ 16384 ≤ dR (s.c.un s.c.place) s.put
      rw [h.G, h.put]; omega)]
    show _ = _
    unfold aZ.iD
    simp only [h.put, List.nil_append]
  refine ⟨hE', ?_⟩
  unfold aZ.wR
  rw [if_pos h.dN]
  dsimp only
  rw [if_pos ⟨hE', h.cls⟩, hS]
theorem Gq (u : aZ) (h : u.dN = true) : (u.iC 0).c.L = u.c.L := by by_cases ha : u.argues = true <;> by_cases hp : u.put = [] <;> by_cases hc : u.cls = 2 <;> simp [aZ.iC, aZ.iT, aZ.dZ, aZ.dI, aZ.sJ, aZ.jM, aZ.iM, aZ.here, fB, ha, hp, hc, h]
theorem AL (u : aZ) (h : u.dN = true) : (u.iC 0).c.pt = u.c.pt := by by_cases ha : u.argues = true <;> by_cases hp : u.put = [] <;> by_cases hc : u.cls = 2 <;> simp [aZ.iC, aZ.iT, aZ.dZ, aZ.dI, aZ.sJ, aZ.jM, aZ.iM, aZ.here, fB, ha, hp, hc, h]
theorem PN (u : aZ) (h : u.dN = true) : (u.iC 0).c.E = u.c.E := by by_cases ha : u.argues = true <;> by_cases hp : u.put = [] <;> by_cases hc : u.cls = 2 <;> simp [aZ.iC, aZ.iT, aZ.dZ, aZ.dI, aZ.sJ, aZ.jM, aZ.iM, aZ.here, fB, ha, hp, hc, h]
theorem Q9 (u : aZ) (h : u.dN = true) : (u.iC 0).c.at_ = u.c.at_ := by by_cases ha : u.argues = true <;> by_cases hp : u.put = [] <;> by_cases hc : u.cls = 2 <;> simp [aZ.iC, aZ.iT, aZ.dZ, aZ.dI, aZ.sJ, aZ.jM, aZ.iM, aZ.here, fB, ha, hp, hc, h]
theorem EP (u : aZ) (h : u.dN = true) : (u.iC 0).c.over = u.c.over := by by_cases ha : u.argues = true <;> by_cases hp : u.put = [] <;> by_cases hc : u.cls = 2 <;> simp [aZ.iC, aZ.iT, aZ.dZ, aZ.dI, aZ.sJ, aZ.jM, aZ.iM, aZ.here, fB, ha, hp, hc, h]
theorem vO (u : aZ) (h : u.dN = true) : (u.iC 0).dN = false := by by_cases ha : u.argues = true <;> by_cases hp : u.put = [] <;> by_cases hc : u.cls = 2 <;> simp [aZ.iC, aZ.iT, aZ.dZ, aZ.dI, aZ.sJ, aZ.jM, aZ.iM, aZ.here, fB, ha, hp, hc, h]
theorem Nr (u : aZ) (h : u.dN = true) : (u.iC 0).c.last = u.cls := by by_cases ha : u.argues = true <;> by_cases hp : u.put = [] <;> by_cases hc : u.cls = 2 <;> simp [aZ.iC, aZ.iT, aZ.dZ, aZ.dI, aZ.sJ, aZ.jM, aZ.iM, aZ.here, fB, ha, hp, hc, h]
theorem IY (u : aZ) (h : u.dN = true) : (u.iC 0).c.run = (u.typed && (!u.put.isEmpty || u.c.run)) := by by_cases ha : u.argues = true <;> by_cases hp : u.put = [] <;> by_cases hc : u.cls = 2 <;> simp [aZ.iC, aZ.iT, aZ.dZ, aZ.dI, aZ.sJ, aZ.jM, aZ.iM, aZ.here, fB, ha, hp, hc, h]
theorem LC (u : aZ) (h : u.dN = true) : (u.iC 0).c.un (u.iC 0).c.place = u.iM (u.typed && u.c.run) := by by_cases ha : u.argues = true <;> by_cases hp : u.put = [] <;> by_cases hc : u.cls = 2 <;> simp [aZ.iC, aZ.iT, aZ.dZ, aZ.dI, aZ.sJ, aZ.jM, aZ.iM, aZ.here, fB, ha, hp, hc, h]
theorem SC.typed (h : SC s L pt G run) (h1 : 0 ≤ pt ∧ pt ≤ L.length) (h2 : L.length < 1024) (h3 : dR G [] < 16384) :
    Out ((s.wR [r]).iC 0) (L.take pt.toNat ++ [r] ++ L.drop pt.toNat) (pt + 1) (IX G run (pt, [], [r])) true ∧ (s.wR [r]).pY 0 = 0 := by
  obtain ⟨_, e⟩ := h.SE (r := r) h1 h2 h3
  have hu : (s.wR [r]).dN = true := by rw [e]; exact h.dN
  have hT : (s.wR [r]).typed = true := by rw [e]; show (((3 : Int) == 3) && s.whole) = true; rw [h.whole]; rfl
  have hp : (s.wR [r]).put = [(pt, [], [r])] := by rw [e]
  have hr : (s.wR [r]).c.run = run := by rw [e]; exact h.run
  have hh : (s.wR [r]).here = G := by rw [e]; exact h.G
  refine ⟨⟨vO _ hu, (Gq _ hu).trans (by rw [e]; rfl), (AL _ hu).trans (by rw [e]; rfl), ?_, ?_, (EP _ hu).trans (by rw [e]; exact h.over)⟩, by unfold aZ.pY; rw [if_pos hu]⟩
  · rw [LC _ hu, hT, hr, Bool.true_and]
    unfold aZ.iM IX
    rw [if_neg (by rw [hp]; simp), hp, hh] <;> rfl
  · rw [IY _ hu, hT, hp]; rfl
def ER (s : aZ) (r : Int) : aZ := (s.bF.wR [r]).iC (s.bF.OT [r])
theorem Out.ER (h : Out s L pt G run) (h1 : 0 ≤ pt ∧ pt ≤ L.length) (h2 : L.length < 1024) (h3 : dR G [] < 16384) :
    Out (ER s r) (L.take pt.toNat ++ [r] ++ L.drop pt.toNat) (pt + 1) (IX G run (pt, [], [r])) true := by
  unfold Go.Proofs.YtgndbccogcofjaaGreatDoor.ER
  rw [(h.begin.1.SE (r := r) h1 h2 h3).1]
  exact (h.begin.1.typed h1 h2 h3).1
theorem Ns (hi : s.dN = true) (hL : s.c.L = L) (hpt : s.c.pt = pt) (hG : s.here = G) (ho : s.c.over = false) (hp : s.put = []) (hc : s.cls = 0) : Out (s.iC 0) L pt G false := by
  have hT : s.typed = false := by unfold aZ.typed; rw [hc]; rfl
  refine ⟨vO _ hi, (Gq _ hi).trans hL, (AL _ hi).trans hpt, ?_, ?_, (EP _ hi).trans ho⟩
  · rw [LC _ hi]; unfold aZ.iM; rw [if_pos hp]; exact hG
  · rw [IY _ hi, hT]; rfl
theorem SC.end_ (h : SC s L pt G run) : Out (s.iC 0) L pt G false := Ns h.dN h.L h.pt h.G h.over h.put h.cls
theorem Out.move (h : Out s L pt G run) (x : Int) (hx : 0 ≤ x ∧ x ≤ L.length) : Out ((s.bF.kP x).iC 0) L x G false := by
  have hb := h.begin.1
  refine SC.end_ (s := s.bF.kP x) (run := run) ?_
  unfold aZ.kP
  rw [if_pos hb.dN]
  refine ⟨hb.dN, hb.L, ?_, hb.G, hb.run, hb.over, hb.put, hb.cls, hb.whole⟩
  show Qs s.bF.c.L.length s.bF.c.pt x = x
  unfold Qs
  rw [if_pos (by rw [hb.L]; omega)]
end
end Go.Proofs.YtgndbccogcofjaaGreatDoor
end
section
namespace Go.Proofs.YtgndbccogcofjaaGreatDoor
open Go.RowKit
def Rf (p : Int) : List Int → List dU
  | [] => []
  | r :: l => (p, [], [r]) :: Rf (p + 1) l
theorem PO (p : Int) (l : List Int) (r : Int) : Rf p (l ++ [r]) = Rf p l ++ [(p + l.length, [], [r])] := by
  induction l generalizing p with
  | nil => simp [Rf]
  | cons x l ih => simp only [List.cons_append, Rf, ih, List.length_cons]; rw [show p + 1 + (l.length : Int) = p + ((l.length + 1 : Nat) : Int) from by omega]
theorem Rh (p : Int) (l : List Int) : (Rf p l).length = l.length := by induction l generalizing p with
  | nil => rfl
  | cons x l ih => simp [Rf, ih]
def zW (G : List (List dU)) (p : Int) (l : List Int) : List (List dU) := if l = [] then G else G ++ [Rf p l]
theorem Nu (G : List (List dU)) (p : Int) (l : List Int) : dR (zW G p l) [] = dR G [] + l.length := by
  unfold zW dR; split
  · rename_i h; subst h; simp
  · simp [Rh]
theorem J7 (G : List (List dU)) (p : Int) (l : List Int) (r : Int) : IX (zW G p l) (!l.isEmpty) (p + l.length, [], [r]) = zW G p (l ++ [r]) := by
  unfold IX zW
  rw [if_neg (show l ++ [r] ≠ [] by simp)]
  cases l with
  | nil => simp [Rf]
  | cons x l => rw [if_neg (show ¬ x :: l = [] by simp)]; simp only [List.isEmpty_cons, Bool.not_false, if_true, List.getLast?_append, List.getLast?_singleton, Option.some_or, List.dropLast_concat, PO]
theorem gy (s : aZ) : s.bF.dN = true := by unfold aZ.bF; split; assumption; rfl
section
variable {s : aZ} {L : List Int} {pt : Int} {G : List (List dU)} {run : Bool} {r : Int}
def Dp (s : aZ) (l : List Int) : aZ := l.foldl ER s
theorem Out.Dp (h : Out s L pt G false) (h1 : 0 ≤ pt ∧ pt ≤ L.length) (l : List Int) (h2 : L.length + l.length ≤ 1024) (h3 : dR G [] + l.length ≤ 16384) :
    Out (Dp s l) (L.take pt.toNat ++ l ++ L.drop pt.toNat) (pt + l.length) (zW G pt l) (!l.isEmpty) := by
  suffices hh : ∀ n (l : List Int), l.length = n → L.length + n ≤ 1024 → dR G [] + n ≤ 16384 → Out (Go.Proofs.YtgndbccogcofjaaGreatDoor.Dp s l) (L.take pt.toNat ++ l ++ L.drop pt.toNat) (pt + l.length) (zW G pt l) (!l.isEmpty) from hh _ l rfl h2 h3
  intro n
  induction n with
  | zero =>
    intro l hn _ _
    obtain rfl := List.length_eq_zero_iff.1 hn
    simpa [zW, Go.Proofs.YtgndbccogcofjaaGreatDoor.Dp] using h
  | succ n ih =>
    intro l hn h2 h3
    rcases List.eq_nil_or_concat l with rfl | ⟨l, r, rfl⟩
    · cases hn
    rw [List.concat_eq_append] at hn ⊢
    have hn2 : l.length = n := by simpa using hn
    have h4 := ih l hn2 (by omega) (by omega)
    have hl : (L.take pt.toNat ++ l ++ L.drop pt.toNat).length = L.length + l.length := by simp; omega
    have h5 := h4.ER (r := r) (by rw [hl]; omega) (by rw [hl]; omega) (by rw [Nu]; omega)
    have e1 : (L.take pt.toNat ++ l ++ L.drop pt.toNat).take (pt + l.length).toNat = L.take pt.toNat ++ l := by
      rw [List.take_append_of_le_length (by simp; omega), List.take_of_length_le (by simp; omega)]
    have e2 : (L.take pt.toNat ++ l ++ L.drop pt.toNat).drop (pt + l.length).toNat = L.drop pt.toNat := by
      rw [List.drop_append_of_le_length (by simp; omega), List.drop_of_length_le (by simp; omega), List.nil_append]
    rw [e1, e2, J7] at h5
    have e3 : Go.Proofs.YtgndbccogcofjaaGreatDoor.Dp s (l ++ [r]) = Go.Proofs.YtgndbccogcofjaaGreatDoor.ER (Go.Proofs.YtgndbccogcofjaaGreatDoor.Dp s l) r := by unfold Go.Proofs.YtgndbccogcofjaaGreatDoor.Dp; rw [List.foldl_append]; rfl
    rw [e3]
    rw [show pt + ((l ++ [r]).length : Int) = pt + l.length + 1 from by simp; omega, show (!(l ++ [r]).isEmpty) = true from by simp, ← List.append_assoc]
    exact h5
end
end Go.Proofs.YtgndbccogcofjaaGreatDoor
end
section
namespace Go.Proofs.YtgndbccogcofjaaGreatDoor
open Go.RowKit
section
variable {s : aZ}
theorem Ri (s : aZ) (x : dU) : (s.kU x).c.L = s.c.L ∧ (s.kU x).c.pt = s.c.pt ∧ (s.kU x).c.mark = s.c.mark ∧ (s.kU x).c.E = s.c.E ∧ (s.kU x).c.at_ = s.c.at_ ∧ (s.kU x).dN = s.dN ∧ (s.kU x).cls = s.cls ∧ (s.kU x).was = s.was := by
  unfold aZ.kU
  split
  · simp
  · split <;> simp [aZ.jM]
theorem Gs (h : s.dN = true) (i j : Int) (l : List Int) : (s.iV i j l).c.L = lH s.c.L i j l ∧ (s.iV i j l).c.pt = lI s.c.L s.c.pt i j l ∧ (s.iV i j l).c.mark = lX s.c.L s.c.mark i j l ∧ (s.iV i j l).c.E = s.c.E ∧ (s.iV i j l).c.at_ = s.c.at_ ∧ (s.iV i j l).dN = true ∧ (s.iV i j l).cls = s.cls ∧ (s.iV i j l).was = s.was := by
  unfold aZ.iV
  rw [if_pos h]
  obtain ⟨h1, h2, h3, h4, h5, h6, h7, h8⟩ := Ri (s.iD (lH s.c.L i j l) (lI s.c.L s.c.pt i j l) (lX s.c.L s.c.mark i j l)) (nG s.c.L i j l, jk s.c.L i j l, jl s.c.L i j l)
  exact ⟨h1, h2, h3, h4, h5, h6.trans h, h7, h8⟩
theorem J8 (h : s.dN = true) {i j : Int} {back : Bool} (hi : 0 ≤ i ∧ i ≤ j ∧ j ≤ s.c.L.length) (hL : s.c.L.length ≤ 1024) (hk : (s.jO i j back).1 = 0) (hp : i ≤ s.c.pt ∧ s.c.pt ≤ j) :
    (s.nH i j back).c.L = s.c.L.take i.toNat ++ s.c.L.drop j.toNat ∧ (s.nH i j back).c.pt = i ∧ (s.nH i j back).c.E = (s.jO i j back).2.1 ∧ (s.nH i j back).c.at_ = (s.jO i j back).2.2 ∧ (s.nH i j back).dN = true ∧ (s.nH i j back).cls = 1 := by
  have hc : s.jZ i j back = 0 := by
    unfold aZ.jZ
    rw [if_pos h, if_neg (by unfold aZ.jB; omega), hk]
  have hE : iU s.c.L i j [] = 0 := by unfold iU; rw [if_neg (by omega), if_neg (by simp; omega)]
  unfold aZ.nH
  rw [if_pos hc]
  have e : s.jP i j back = { s.yF (s.jO i j back).2.1 (s.jO i j back).2.2 with killed := true, cls := 1 } := by unfold aZ.jP; rw [if_pos hc]
  have ei : (s.jP i j back).dN = true := by rw [e]; exact h
  obtain ⟨h1, h2, h3, h4, h5, h6, h7, h8⟩ := Gs ei i j []
  refine ⟨h1.trans ?_, h2.trans ?_, h4.trans (by rw [e]; rfl), h5.trans (by rw [e]; rfl), h6, h7.trans (by rw [e])⟩
  · rw [show (s.jP i j back).c.L = s.c.L from by rw [e]; rfl]
    unfold lH
    rw [if_pos hE]; simp
  · rw [show (s.jP i j back).c.L = s.c.L from by rw [e]; rfl, show (s.jP i j back).c.pt = s.c.pt from by rw [e]; rfl]
    unfold lI bI
    rw [if_pos hE]
    simp only [List.length_nil]
    split <;> (try split) <;> omega
end
structure yN (s : aZ) (A : List Int) (a b : Int) : Prop where
  dN : s.dN = false
  ok : 0 ≤ a ∧ a ≤ b ∧ b ≤ A.length
  L : s.c.L = A.take a.toNat ++ A.drop b.toNat
  pt : s.c.pt = a
  ring : (s.c.E = [] ∧ a = b) ∨ (s.c.E = [(A.drop a.toNat).take (b.toNat - a.toNat)] ∧ s.c.at_ = 0 ∧ s.c.last = 1)
section
variable {s : aZ} {A : List Int} {a b k : Int}
theorem yN.len (h : yN s A a b) : (s.c.L.length : Int) = A.length - (b - a) := by
  have := h.ok
  rw [h.L]; simp; omega
theorem dO (s : aZ) : s.bF.c = s.c := by unfold aZ.bF; split <;> rfl
theorem xG (h : yN s A a b) (hA : A.length ≤ 1024) {i j : Int} {back : Bool} {l : List Int} (hcut : s.bF.cut i j = l) (hl : l.length + (b - a) ≤ A.length) :
    (s.bF.jO i j back).1 = 0 ∧ ((s.bF.jO i j back).2.1 = [] ∧ l = [] ∧ a = b ∨ (s.bF.jO i j back).2.1 = [if back then l ++ (A.drop a.toNat).take (b.toNat - a.toNat) else (A.drop a.toNat).take (b.toNat - a.toNat) ++ l] ∧ (s.bF.jO i j back).2.2 = 0) := by
  have ho := h.ok
  have hb : s.bF.killed = false := by unfold aZ.bF; rw [if_neg (by rw [h.dN]; decide)]
  unfold aZ.jO
  rw [hcut, dO]
  rcases h.ring with ⟨h1, h2⟩ | ⟨h1, h2, h3⟩
  · rw [h1]
    have hx : (A.drop a.toNat).take (b.toNat - a.toNat) = [] := by rw [h2]; simp
    have hw : s.bF.way back = 0 ∨ s.bF.way back = 1 ∨ s.bF.way back = 2 := by unfold aZ.way; split <;> (try split) <;> simp
    unfold uZ
    rw [if_neg (by omega), if_neg (by omega), if_neg (by simp)]
    split
    · rename_i h4
      exact ⟨rfl, .inl ⟨rfl, List.length_eq_zero_iff.1 h4.2, h2⟩⟩
    · rw [hx]
      exact ⟨rfl, .inr ⟨by cases back <;> simp, rfl⟩⟩
  · rw [h1, h2]
    have hw : s.bF.way back = if back then 2 else 1 := by unfold aZ.way; rw [if_pos (by rw [dO]; exact .inl h3)]
    have hlen : ((A.drop a.toNat).take (b.toNat - a.toNat)).length = b.toNat - a.toNat := by simp; omega
    rw [hw]
    unfold uZ
    rw [if_neg (by cases back <;> simp), if_neg (by omega), if_pos (by cases back <;> simp), if_neg (by simp only [List.getD_cons_zero]; omega)]
    exact ⟨rfl, .inr ⟨by cases back <;> simp, rfl⟩⟩
theorem yN.step (h : yN s A a b) (hA : A.length ≤ 1024) {i j a' b' : Int} {back : Bool} {l : List Int} (hij : 0 ≤ i ∧ i ≤ j ∧ j ≤ s.c.L.length) (hp : i ≤ a ∧ a ≤ j) (hcut : s.bF.cut i j = l) (hl : l.length + (b - a) ≤ A.length)
    (ho : 0 ≤ a' ∧ a' ≤ b' ∧ b' ≤ A.length) (hi : i = a') (hL : s.c.L.take i.toNat ++ s.c.L.drop j.toNat = A.take a'.toNat ++ A.drop b'.toNat) (he : l = [] → a = b → a' = b')
    (hx : (if back then l ++ (A.drop a.toNat).take (b.toNat - a.toNat) else (A.drop a.toNat).take (b.toNat - a.toNat) ++ l) = (A.drop a'.toNat).take (b'.toNat - a'.toNat)) :
    yN ((s.bF.nH i j back).iC 0) A a' b' := by
  obtain ⟨h1, h2⟩ := xG h hA (back := back) hcut hl
  have hlen := h.len
  have hok := h.ok
  obtain ⟨k1, k2, k3, k4, k5, k6⟩ := J8 (s := s.bF) (gy s) (i := i) (j := j) (back := back) (by rw [dO]; exact hij) (by rw [dO]; omega) h1 (by rw [dO, h.pt]; exact hp)
  rw [dO] at k1
  refine ⟨vO _ k5, ho, (Gq _ k5).trans (k1.trans hL), (AL _ k5).trans (k2.trans hi), ?_⟩
  rw [PN _ k5, Q9 _ k5, Nr _ k5, k3, k4, k6]
  rcases h2 with ⟨q1, q2, q3⟩ | ⟨q1, q2⟩
  · exact .inl ⟨q1, he q2 q3⟩
  · exact .inr ⟨by rw [q1, hx], q2, rfl⟩
theorem yN.back (h : yN s A a b) (hA : A.length ≤ 1024) (hk : 0 ≤ k ∧ k ≤ a) : yN ((s.bF.nH (s.bF.c.pt - k) s.bF.c.pt true).iC 0) A (a - k) b := by
  have hlen := h.len
  have hok := h.ok
  rw [dO, h.pt]
  have e1 : s.bF.cut (a - k) a = (A.drop (a - k).toNat).take k.toNat := by
    unfold aZ.cut
    rw [dO, h.L, List.drop_append_of_le_length (by simp; omega), List.take_append_of_le_length (by simp; omega), List.drop_take]
    rw [List.take_take]; congr 1; omega
  refine h.step hA (l := (A.drop (a - k).toNat).take k.toNat) (by omega) (by omega) e1 (by simp; omega) (by omega) rfl ?_ ?_ ?_
  · rw [h.L, List.take_append_of_le_length (by simp; omega), List.take_take, List.drop_append, List.drop_of_length_le (by simp; omega), List.nil_append]
    rw [show min (a - k).toNat a.toNat = (a - k).toNat from by omega, show a.toNat - (A.take a.toNat).length = 0 from by simp; omega, List.drop_zero]
  · intro h1 h2
    have h3 := congrArg List.length h1
    simp at h3; omega
  · simp only [if_true]
    rw [show (A.drop a.toNat).take (b.toNat - a.toNat) = ((A.drop (a - k).toNat).drop k.toNat).take (b.toNat - a.toNat) from by rw [List.drop_drop]; congr 2; omega, show b.toNat - (a - k).toNat = k.toNat + (b.toNat - a.toNat) from by omega, List.take_add]
theorem yN.fwd (h : yN s A a b) (hA : A.length ≤ 1024) (hk : 0 ≤ k ∧ k ≤ A.length - b) : yN ((s.bF.nH s.bF.c.pt (s.bF.c.pt + k) false).iC 0) A a (b + k) := by
  have hlen := h.len
  have hok := h.ok
  rw [dO, h.pt]
  have hta : (A.take a.toNat).length = a.toNat := by simp; omega
  have e0 : s.c.L.drop a.toNat = A.drop b.toNat := by rw [h.L]; exact List.drop_left' hta
  have e1 : s.bF.cut a (a + k) = (A.drop b.toNat).take k.toNat := by
    unfold aZ.cut
    rw [dO, e0]; congr 1; omega
  refine h.step hA (l := (A.drop b.toNat).take k.toNat) (by omega) (by omega) e1 (by simp; omega) (by omega) rfl ?_ ?_ ?_
  · rw [show (a + k).toNat = a.toNat + k.toNat from by omega, ← List.drop_drop, e0, List.drop_drop, show b.toNat + k.toNat = (b + k).toNat from by omega]
    rw [show s.c.L.take a.toNat = A.take a.toNat from by rw [h.L]; exact List.take_left' hta]
  · intro h1 h2
    have h3 := congrArg List.length h1
    simp at h3; omega
  · simp only [Bool.false_eq_true, if_false]
    rw [show A.drop b.toNat = (A.drop a.toNat).drop (b.toNat - a.toNat) from by rw [List.drop_drop]; congr 1; omega, show (b + k).toNat - a.toNat = (b.toNat - a.toNat) + k.toNat from by omega, List.take_add]
end
end Go.Proofs.YtgndbccogcofjaaGreatDoor
end
section
namespace Go.Proofs.YtgndbccogcofjaaGreatDoor
open Go.RowKit
open _root_.Go.Proofs.Tryz
namespace aZ
variable (s : aZ)
def LD (x : Int) : aZ := (s.bF.kP x).iC (s.bF.qc x)
end aZ
def uo (l : List oG) (ln : List Int) : aZ := (aZ.new (EN l) (EO l) 4096).Gm (EN l) (EO l) 4096 ln
def qU (l : List oG) (ln : List Int) (pt : Int) : aZ := (uo l ln).LD pt
theorem xH (l : List oG) (ln : List Int) : (aZ.new (EN l) (EO l) 4096).rF ln = if 1024 < ln.length then 3 else 0 := by
  unfold aZ.rF; rw [if_neg (by rw [show (aZ.new (EN l) (EO l) 4096).dN = false from rfl]; decide)]
theorem vP {t : aZ} (h : t.dN = true) (err : Int) : (t.iC err).dN = false := by
  by_cases he : err = 0
  · rw [he]; exact vO t h
  · unfold aZ.iC; rw [if_pos h, if_neg he]; rfl
theorem ES (s : aZ) : s.bF.dN = true := by unfold aZ.bF; split; assumption; rfl
theorem Nv (s : aZ) (x : Int) : (s.LD x).dN = false := vP (by unfold aZ.kP; rw [if_pos (ES s)]; exact ES s) _
theorem Nw (l : List oG) (ln : List Int) (x : Int) : (qU l ln x).dN = false := Nv _ _
section
variable {w0 w : World} {F : HP} {l : List oG} {hv lv : Value} {ln : List Int} {pt : Int}
theorem uq (H : aB w0 w F) (q1 : I8 w0 F 2 hv l.length (l.flatMap kT)) (q2 : gJ w0 F .i32 lv ln) (hb : l.length ≤ 5864062014805) (hm : vM l = 0) (hln : ln.length ≤ 1024) :
  fA prog 20 #[.agg #[hv, lv, .int .i64 pt]] w fun v w' => ∃ e, v = .pointer (some ⟨e, 0, none⟩) ∧ aB w0 w' (dw e (qU l ln pt) • F) := by
 refine fU func20 ntmps20 ?_
 dsimp only [aY, Nat.reduceAdd]
 refine ay (ah (ji (iG (l := [_, _, _]) H rfl rfl) ?_))
 rintro _ w1 ⟨b1, rfl, H1⟩
 refine aU rfl (aA (aj (ay (ah (bg 0 underlying49 rfl sizeOf47 rfl (dS underlying47 rfl (H1).get.2 rfl (bZ rfl func39 (vN H1 (by decide) (fun W HW => q1 _ (HW.right)) hb hm) ?_)))))))
 rintro _ w2 ⟨p2, rfl, H2⟩
 refine aO rfl (Ar rfl rfl (Ar rfl rfl (aU rfl (aU rfl (aA (aj (ay (ay (ah (aO rfl (aW (dK rfl rfl) (aA (aj (aN rfl (fun h => by exfalso; (try simp only [aH] at h); simp at h) (fun h1 => ?_)))))))))))))))
 (try simp only [aH] at h1)
 refine aP (aj (ay (ah (aO rfl (bZ rfl func40 (CZ H2) ?_)))))
 rintro _ w3 ⟨e3, rfl, H3⟩
 refine aO rfl (Ar rfl rfl (Ar rfl rfl (aU rfl (aU rfl (aA (aj (ay (ay (ah (aO rfl (aW (dK rfl rfl) (gB rfl (fun h => by exfalso; (try simp only [aH] at h); simp at h) (fun h2 => ?_)))))))))))))
 (try simp only [aH] at h2)
 refine bf (aO rfl (bf (aW (eu underlying26 rfl rfl) (fG rfl rfl (gB rfl (fun h => by exfalso; (try simp only [aH] at h); simp at h) (fun h3 => ?_))))))
 (try simp only [aH] at h3)
 refine bf (aO rfl (bf (aO rfl (bf (bg 1 underlying49 rfl sizeOf22 rfl (bf (dS underlying22 rfl (H3.f3).get.2 rfl (bf (bZ rfl func41 (yM H3.f2.f2 (fun W HW => q2 _ (HW.right))) ?_)))))))))
 rintro _ w4 ⟨rfl, H4⟩
 refine bf (aW (dK rfl rfl) (fG rfl rfl (aA (aj (aN rfl (fun h => by exfalso; (try simp only [aH] at h); have h9 := xH l ln; rw [if_neg (by omega)] at h9; exact h h9) (fun h4 => ?_))))))
 (try simp only [aH] at h4)
 refine aP (aj (ay (ah (aO rfl (bZ rfl func26 (yI (s := uo l ln) H4) ?_)))))
 rintro _ w5 ⟨rfl, H5⟩
 refine aA (aj (ay (ah (aO rfl (aO rfl (bg 2 underlying49 rfl sizeOf3 rfl (dS underlying3 rfl (H5.f3).get.2 rfl (bZ rfl func42 (zU H5) ?_))))))))
 rintro _ w6 ⟨rfl, H6⟩
 refine bZ rfl func27 (Dk H6) ?_
 rintro _ w7 ⟨rfl, H7⟩
 refine aA (aj (ay (ah (aO rfl (aU rfl (aA (aj (aJ (aI (.inl rfl) results20 rfl ?_)))))))))
 exact ⟨_, rfl, H7.f2.right.f2.right⟩
theorem Gt (H : aB w0 w F) (q1 : I8 w0 F 2 hv l.length (l.flatMap kT)) (q2 : gJ w0 F .i32 lv ln) (hb : l.length ≤ 5864062014805) (hm : vM l = 0) (hln : 1024 < ln.length) :
  fA prog 20 #[.agg #[hv, lv, .int .i64 pt]] w fun v w' => v = .pointer none ∧ aB w0 w' F := by
 refine fU func20 ntmps20 ?_
 dsimp only [aY, Nat.reduceAdd]
 refine ay (ah (ji (iG (l := [_, _, _]) H rfl rfl) ?_))
 rintro _ w1 ⟨b1, rfl, H1⟩
 refine aU rfl (aA (aj (ay (ah (bg 0 underlying49 rfl sizeOf47 rfl (dS underlying47 rfl (H1).get.2 rfl (bZ rfl func39 (vN H1 (by decide) (fun W HW => q1 _ (HW.right)) hb hm) ?_)))))))
 rintro _ w2 ⟨p2, rfl, H2⟩
 refine aO rfl (Ar rfl rfl (Ar rfl rfl (aU rfl (aU rfl (aA (aj (ay (ay (ah (aO rfl (aW (dK rfl rfl) (aA (aj (aN rfl (fun h => by exfalso; (try simp only [aH] at h); simp at h) (fun h1 => ?_)))))))))))))))
 (try simp only [aH] at h1)
 refine aP (aj (ay (ah (aO rfl (bZ rfl func40 (CZ H2) ?_)))))
 rintro _ w3 ⟨e3, rfl, H3⟩
 refine aO rfl (Ar rfl rfl (Ar rfl rfl (aU rfl (aU rfl (aA (aj (ay (ay (ah (aO rfl (aW (dK rfl rfl) (gB rfl (fun h => by exfalso; (try simp only [aH] at h); simp at h) (fun h2 => ?_)))))))))))))
 (try simp only [aH] at h2)
 refine bf (aO rfl (bf (aW (eu underlying26 rfl rfl) (fG rfl rfl (gB rfl (fun h => by exfalso; (try simp only [aH] at h); simp at h) (fun h3 => ?_))))))
 (try simp only [aH] at h3)
 refine bf (aO rfl (bf (aO rfl (bf (bg 1 underlying49 rfl sizeOf22 rfl (bf (dS underlying22 rfl (H3.f3).get.2 rfl (bf (bZ rfl func41 (yM H3.f2.f2 (fun W HW => q2 _ (HW.right))) ?_)))))))))
 rintro _ w4 ⟨rfl, H4⟩
 refine bf (aW (dK rfl rfl) (fG rfl rfl (aA (aj (aN rfl (fun h4 => ?_) (fun h => by exfalso; (try simp only [aH] at h); have h9 := xH l ln; rw [if_pos (by omega)] at h9; exact absurd (h9.symm.trans h) (by decide)))))))
 (try simp only [aH] at h4)
 refine ay (ah (aU rfl (aA (aj (aJ (aK (aI (.inl rfl) results20 rfl ?_)))))))
 exact ⟨rfl, H4.right.right.right⟩
end
end Go.Proofs.YtgndbccogcofjaaGreatDoor
end
section
namespace Go.Proofs.YtgndbccogcofjaaGreatDoor
open Go.RowKit
theorem kD {P : Program} {L : List (Nat × Value)} {w : World} {ty t : TypeId} {fs : Array Field} {f : Field} {i : Nat} {x : Operand} {cs : Array Value} {u : Value} (off : Nat) (ht : P.underlying t = some (.struct fs)) (hf : fs[i]? = some f) (ho : f.offset = off) (hp : kE P f.type = true) (hx : ev L x = some (.agg cs)) (hc : cs[off]? = some u) :
    Val P L (.field t x i) ty w u w := fun ρ hρ _ _ _ _ => by
  simp [execOp, hρ _ _ hx, Instr.field, run_underlying ht, hf, part, asAgg, xR hp, ho, hc]
end Go.Proofs.YtgndbccogcofjaaGreatDoor
end
