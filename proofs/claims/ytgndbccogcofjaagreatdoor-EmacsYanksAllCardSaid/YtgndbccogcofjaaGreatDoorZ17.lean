import Derived.Test.YtgndbccogcofjaaGreatDoorZ2
import Derived.Test.YtgndbccogcofjaaGreatDoorZ15
import Derived.Test.YtgndbccogcofjaaGreatDoorZ16
import Derived.Test.YtgndbccogcofjaaGreatDoorZ13
import Derived.Test.YtgndbccogcofjaaGreatDoorZ14
import Derived.Test.YtgndbccogcofjaaGreatDoorZ11
import Derived.Test.YtgndbccogcofjaaGreatDoorZ9
import Derived.Test.YtgndbccogcofjaaGreatDoorZ12
set_option linter.unusedSimpArgs false
set_option linter.unusedVariables false
/- Texts of mine, joined, their names in short: EmD EdSt HistF ETyM ETyM2 EKillM. -/
section
namespace Go.Proofs.YtgndbccogcofjaaGreatDoor
open Go.RowKit
open _root_.Go.Proofs.Tryz
def Ro : ByteArray := ⟨#[113, 117, 111, 116, 101, 100, 45, 105, 110, 115, 101, 114, 116]⟩
def Rq : ByteArray := ⟨#[99, 104, 97, 114, 97, 99, 116, 101, 114, 45, 115, 101, 97, 114, 99, 104]⟩
def Jd : ByteArray := ⟨#[99, 104, 97, 114, 97, 99, 116, 101, 114, 45, 115, 101, 97, 114, 99, 104, 45, 98, 97, 99, 107, 119, 97, 114, 100]⟩
def DK (n : ByteArray) : Prop := n.toList = Ro.toList ∨ n.toList = Rq.toList ∨ n.toList = Jd.toList
instance (n : ByteArray) : Decidable (DK n) := by unfold DK; infer_instance
def qE (n : ByteArray) (k : Nat) : Int := if xG ((yC n).getD .nilFunc) = true then -1 else if k = 0 ∨ (DK n ∧ k = 1) then 1 else 0
theorem wL {n : ByteArray} {k : Nat} (h : xG ((yC n).getD .nilFunc) = false) (hd : k = 0 ∨ (DK n ∧ k = 1)) : qE n k = 1 := by unfold qE; rw [if_neg (by rw [h]; decide), if_pos hd]
theorem qY {n : ByteArray} {k : Nat} (h : xG ((yC n).getD .nilFunc) = false) (hd : ¬ (k = 0 ∨ (DK n ∧ k = 1))) : qE n k = 0 := by unfold qE; rw [if_neg (by rw [h]; decide), if_neg hd]
def PL (w0 : World) (fv : Value) (keys : List Int) (s : bg) (x : Int) (t : bg) : Prop := ∀ (F : HP) (W : World) (c e : Nat) (lv kv : Value), aB w0 W (dB c (.cells #[.pointer (some ⟨e, 0, none⟩), lv, .int .i64 s.c.pt, .int .i64 s.c.mark, .int .i64 s.count, .bool s.given, kv] 79 (0, 0)) • iU 21 .i32 lv s.c.L • dw e s • F) → gW w0 F .i32 kv keys →
  Hg prog fv [.pointer (some ⟨c, 0, none⟩)] W fun v W' => v = .int .i64 x ∧ aB w0 W' (dB c (.cells #[.pointer (some ⟨e, 0, none⟩), lv, .int .i64 s.c.pt, .int .i64 s.c.mark, .int .i64 s.count, .bool s.given, kv] 79 (0, 0)) • iU 21 .i32 lv s.c.L • dw e t • F)
section
variable {w0 w : World} {F : HP} {e k : Nat} {s t : bg} {kv : Value} {keys : List Int} {name : ByteArray} {x : Int}
theorem GH (H : aB w0 w F) (q1 : gW w0 F .i32 kv keys) : fO prog 14 #[.string name, kv] w fun v w' => v = .int .i64 (qE name keys.length) ∧ aB w0 w' F := by
 have hcv := Vt name
 refine gB func14 ntmps14 ?_
 dsimp only [bf, Nat.reduceAdd]
 refine ay (ah (aV rfl (aA (aj (ay (ay (ah (bZ rfl func25 (yD H) ?_))))))))
 rintro _ w1 ⟨bM1, rfl, H1⟩
 refine aN rfl (aX (BR (H1) underlying72 underlying9 zeroValue71 rfl rfl) ?_)
 have Hd2 := H1.right
 refine aX (BZ underlying71 rfl rfl (by assumption)) ?_
 refine aA (aj (aO rfl (fun h1 => ?_) (fun h1 => ?_)))
 ·(try simp only [aH] at h1)
  have hc := h1
  refine ay (ah (aV rfl (aA (aj (aJ (aK (aI (.inl rfl) results14 rfl ?_)))))))
  exact ⟨by unfold qE; rw [if_pos hc], Hd2⟩
 ·(try simp only [aH] at h1)
  have hc := h1
  refine aP (aj (ay (ah (aN rfl (aX (wH rfl rfl) (fK rfl (fun h2 => ?_) (fun h2 => ?_)))))))
  ·(try simp only [aH] at h2)
   refine bD (bD (fG rfl rfl (aN rfl (bD (bD (fG rfl rfl (aV rfl (aA (aj (ay (ay (ah (aN rfl (aX (jr (q1 _ (Hd2)) underlying22 rfl) (aX (dO rfl rfl) (fK rfl (fun h3 => ?_) (fun h3 => ?_)))))))))))))))))
   ·(try simp only [aH] at h3)
    refine bD (bD (jq (jq (jq (bD (fG rfl rfl (aA (aj (uX (ay (ah (aV rfl (aA (aj (aJ (aK (aI (.inl rfl) results14 rfl ?_)))))))))))))))))
    exact ⟨by rw [wL hc (by first | exact .inl (by omega) | exact .inr ⟨.inl (by assumption), by omega⟩ | exact .inr ⟨.inr (.inl (by assumption)), by omega⟩ | exact .inr ⟨.inr (.inr (by assumption)), by omega⟩)], Hd2⟩
   ·(try simp only [aH] at h3)
    refine aZ (aN rfl (aZ (aN rfl (aZ (aN rfl (aZ (aX (jr (q1 _ (Hd2)) underlying22 rfl) (aZ (aX (dO rfl rfl) (aZ (fG rfl rfl (eG rfl rfl (aA (aj (aO rfl (fun h4 => ?_) (fun h4 => ?_))))))))))))))))
    ·(try simp only [aH] at h4)
     have hd := h4
     refine ay (ah (aV rfl (aA (aj (aJ (aK (aI (.inl rfl) results14 rfl ?_)))))))
     exact ⟨by rw [wL hc (by first | exact .inl (by omega) | exact .inr ⟨.inl (by assumption), by omega⟩ | exact .inr ⟨.inr (.inl (by assumption)), by omega⟩ | exact .inr ⟨.inr (.inr (by assumption)), by omega⟩)], Hd2⟩
    ·(try simp only [aH] at h4)
     have hd := h4
     refine aP (aj (ay (ah (aV rfl (aA (aj (aJ (aI (.inl rfl) results14 rfl ?_))))))))
     exact ⟨by rw [qY hc (by rintro (h9 | ⟨h9 | h9 | h9, h8⟩) <;> first | omega | exact absurd h9 (by assumption))], Hd2⟩
  ·(try simp only [aH] at h2)
   refine aZ (aN rfl (aZ (aX (wH rfl rfl) (eG rfl rfl (fK rfl (fun h5 => ?_) (fun h5 => ?_))))))
   ·(try simp only [aH] at h5)
    refine bD (bD (fG rfl rfl (aV rfl (aA (aj (ay (ay (ah (aN rfl (aX (jr (q1 _ (Hd2)) underlying22 rfl) (aX (dO rfl rfl) (fK rfl (fun h6 => ?_) (fun h6 => ?_)))))))))))))
    ·(try simp only [aH] at h6)
     refine bD (bD (jq (jq (jq (bD (fG rfl rfl (aA (aj (uX (ay (ah (aV rfl (aA (aj (aJ (aK (aI (.inl rfl) results14 rfl ?_)))))))))))))))))
     exact ⟨by rw [wL hc (by first | exact .inl (by omega) | exact .inr ⟨.inl (by assumption), by omega⟩ | exact .inr ⟨.inr (.inl (by assumption)), by omega⟩ | exact .inr ⟨.inr (.inr (by assumption)), by omega⟩)], Hd2⟩
    ·(try simp only [aH] at h6)
     refine aZ (aN rfl (aZ (aN rfl (aZ (aN rfl (aZ (aX (jr (q1 _ (Hd2)) underlying22 rfl) (aZ (aX (dO rfl rfl) (aZ (fG rfl rfl (eG rfl rfl (aA (aj (aO rfl (fun h7 => ?_) (fun h7 => ?_))))))))))))))))
     ·(try simp only [aH] at h7)
      have hd := h7
      refine ay (ah (aV rfl (aA (aj (aJ (aK (aI (.inl rfl) results14 rfl ?_)))))))
      exact ⟨by rw [wL hc (by first | exact .inl (by omega) | exact .inr ⟨.inl (by assumption), by omega⟩ | exact .inr ⟨.inr (.inl (by assumption)), by omega⟩ | exact .inr ⟨.inr (.inr (by assumption)), by omega⟩)], Hd2⟩
     ·(try simp only [aH] at h7)
      have hd := h7
      refine aP (aj (ay (ah (aV rfl (aA (aj (aJ (aI (.inl rfl) results14 rfl ?_))))))))
      exact ⟨by rw [qY hc (by rintro (h9 | ⟨h9 | h9 | h9, h8⟩) <;> first | omega | exact absurd h9 (by assumption))], Hd2⟩
   ·(try simp only [aH] at h5)
    refine aZ (aN rfl (aZ (aX (wH rfl rfl) (eG rfl rfl (aV rfl (aA (aj (ay (ay (ah (aN rfl (aX (jr (q1 _ (Hd2)) underlying22 rfl) (aX (dO rfl rfl) (fK rfl (fun h8 => ?_) (fun h8 => ?_)))))))))))))))
    ·(try simp only [aH] at h8)
     refine bD (bD (jq (jq (jq (bD (fG rfl rfl (aA (aj (uX (ay (ah (aV rfl (aA (aj (aJ (aK (aI (.inl rfl) results14 rfl ?_)))))))))))))))))
     exact ⟨by rw [wL hc (by first | exact .inl (by omega) | exact .inr ⟨.inl (by assumption), by omega⟩ | exact .inr ⟨.inr (.inl (by assumption)), by omega⟩ | exact .inr ⟨.inr (.inr (by assumption)), by omega⟩)], Hd2⟩
    ·(try simp only [aH] at h8)
     refine aZ (aN rfl (aZ (fK rfl (fun h9 => ?_) (fun h9 => ?_))))
     ·(try simp only [aH] at h9)
      refine aZ (aN rfl (aZ (aX (jr (q1 _ (Hd2)) underlying22 rfl) (aZ (aX (dO rfl rfl) (aZ (fG rfl rfl (eG rfl rfl (aA (aj (aO rfl (fun h10 => ?_) (fun h10 => ?_))))))))))))
      ·(try simp only [aH] at h10)
       have hd := h10
       refine ay (ah (aV rfl (aA (aj (aJ (aK (aI (.inl rfl) results14 rfl ?_)))))))
       exact ⟨by rw [wL hc (by first | exact .inl (by omega) | exact .inr ⟨.inl (by assumption), by omega⟩ | exact .inr ⟨.inr (.inl (by assumption)), by omega⟩ | exact .inr ⟨.inr (.inr (by assumption)), by omega⟩)], Hd2⟩
      ·(try simp only [aH] at h10)
       have hd := h10
       refine aP (aj (ay (ah (aV rfl (aA (aj (aJ (aI (.inl rfl) results14 rfl ?_))))))))
       exact ⟨by rw [qY hc (by rintro (h9 | ⟨h9 | h9 | h9, h8⟩) <;> first | omega | exact absurd h9 (by assumption))], Hd2⟩
     ·(try simp only [aH] at h9)
      refine bD (bD (bD (aZ (eG rfl rfl (eG rfl rfl (aA (aj (nN (aP (aj (ay (ah (aV rfl (aA (aj (aJ (aI (.inl rfl) results14 rfl ?_)))))))))))))))))
      exact ⟨by rw [qY hc (by rintro (h9 | ⟨h9 | h9 | h9, h8⟩) <;> first | omega | exact absurd h9 (by assumption))], Hd2⟩
theorem iR {fv : Value} (H : aB w0 w (dw e s • F)) (hi : s.dP = false) (q1 : gW w0 F .i32 kv keys) (hn : yC name = some fv) (hw : qE name keys.length = 0) (hf : PL w0 fv keys s.aU x t) :
  fO prog 11 #[.pointer (some ⟨e, 0, none⟩), .string name, kv] w fun v w' => v = .int .i64 (t.qo x) ∧ aB w0 w' (dw e (t.gq x) • F) := by
 have hcv := Vt name
 have hnn : xG ((yC name).getD .nilFunc) = false := by obtain ⟨k, -, rfl⟩ := EJ hn; rw [hn]; rfl
 refine gB func11 ntmps11 ?_
 dsimp only [bf, Nat.reduceAdd]
 refine ay (ah (aV rfl (aA (aj (ay (ay (ah (aN rfl (bZ rfl func24 (Em H (by assumption)) ?_)))))))))
 rintro _ w1 ⟨cl1, rfl, H1⟩
 refine aX (fA underlying26 rfl rfl) (aA (aj (aO rfl (fun h => by exfalso; (try simp only [aH] at h); simp at h) (fun h1 => ?_))))
 (try simp only [aH] at h1)
 refine aP (aj (ay (ah (bZ rfl func25 (yD H1) ?_))))
 rintro _ w2 ⟨bM2, rfl, H2⟩
 refine aN rfl (aX (BR (H2) underlying72 underlying9 zeroValue71 rfl rfl) ?_)
 have Xa := H2.right
 refine aV rfl (aA (aj (ay (ay (ah (aN rfl ?_))))))
 refine aX (BZ underlying71 rfl rfl (by assumption)) ?_
 refine aA (aj (aO rfl (fun h => by exfalso; (try simp only [aH] at h); rw [hnn] at h; simp at h) (fun h2 => ?_)))
 (try simp only [aH] at h2)
 refine aP (aj (ay (ay (ah (aN rfl (aN rfl (bZ rfl func14 (GH Xa (fun W HW => q1 _ (HW.right))) ?_)))))))
 rintro _ w4 ⟨rfl, H4⟩
 refine aX (dU rfl rfl) (aA (aj (aO rfl (fun h => by exfalso; (try simp only [aH] at h); exact h hw) (fun h3 => ?_))))
 (try simp only [aH] at h3)
 refine aP (aj (ay (ay (ah (aN rfl (bZ rfl func26 (yQ H4) ?_))))))
 rintro _ w5 ⟨rfl, H5⟩
 refine aV rfl (aA (aj (ay (ah (aN rfl (aX (dU rfl rfl) (aA (aj (aO rfl (fun h => by exfalso; (try simp only [aH] at h); exact h (by unfold bg.zC; rw [if_neg (by simp [hi])])) (fun h4 => ?_))))))))))
 (try simp only [aH] at h4)
 refine aP (aj (ay (ah (aN rfl (bZ rfl func21 (dW H5) ?_)))))
 rintro _ w6 ⟨u6, rfl, H6⟩
 refine jh (gJ (l := [_, _, _]) H6 zeroValue53 rfl) ?_
 rintro _ w7 ⟨b7, rfl, H7⟩
 refine aG (cZ 0 (l' := [_, _, _]) (us := [_, _, _]) H7 sizeOf53 rfl rfl rfl (aC (by first | rfl | exact Rd.one ((H7.f2).aT)) (aC (by first | rfl | assumption) (aC (by first | rfl | assumption) bV))) rfl rfl) ?_
 rintro _ w8 H8
 refine aA (aj (ay ?_))
 have SS := H8.drew
 have ou := aB.kp (SS.f3.right.f2.f2)
 refine yZ [4, 6, 8] ou rfl (iF 0 rfl ou rfl (iF 1 rfl ou rfl (iF 2 rfl ou rfl (gV 3 rfl ou 0 underlying53 rfl sizeOf22 rfl (jk 4 rfl ou (fun W hW => jP underlying22 rfl ((Kp.h hW)).get.2 rfl) (gV 5 rfl ou 1 underlying53 rfl sizeOf3 rfl (jk 6 rfl ou (fun W hW => jP underlying3 rfl ((Kp.h hW)).get.2 rfl) (gV 7 rfl ou 2 underlying53 rfl sizeOf3 rfl (jk 8 rfl ou (fun W hW => jP underlying3 rfl ((Kp.h hW)).get.2 rfl) (iF 9 rfl ou rfl (iF 11 rfl ou rfl (iF 13 rfl ou rfl (kE 10 rfl (wW rfl func28 (Gt SS.f3)) ?_)))))))))))))
 rintro _ w9 ⟨rfl, H9⟩
 have JJ := aB.kp (H9.right.f2.f2)
 refine dQ JJ (fun W hW => (Kp.h hW).f2.f2) ?_
 refine kE 12 rfl (wW rfl func29 (Gu H9)) ?_
 rintro _ w10 ⟨rfl, nO⟩
 have EP := aB.kp (nO.f3.f3.f3)
 refine dQ EP (fun W hW => (Kp.h hW).right.f2.f2) ?_
 refine jg 14 rfl EP (fun _ => fF (zl := [.pointer none, .slice none 0 0, .int .i64 0, .int .i64 0, .int .i64 0, .bool false, .slice none 0 0]) (pl := [(0, 1), (1, 1), (2, 1), (3, 1), (4, 1), (5, 1), (6, 1)]) [_, _, _, _, _, _, _] underlying79 zeroValue79 rfl (fun w => by kernel_rfl) rfl (.one (by first | rfl | assumption) (.one (Rd.one ((nO.f3).aT)) (.one (by first | rfl | assumption) (.one (by first | rfl | assumption) (.one (by first | rfl | assumption) (.one (by first | rfl | assumption) (.one (Rd.one (q1 _ (nO.right.right.right))) .nil))))))) rfl) ?_
 refine kE 15 rfl (iL (l := [_, _, _, _, _, _, _]) nO rfl rfl) ?_
 rintro _ Hz ⟨b11, rfl, vk⟩
 have EO := aB.kp (vk.f4.f4.f4.f4)
 refine fQ EO (by kernel_rfl) ?_
 refine kE 16 rfl (rX rfl rfl ((by rw [hn]; exact hf _ _ _ _ _ _ vk.f3.right.f2.f3.f3 q1))) ?_
 rintro _ w12 ⟨rfl, wP⟩
 have yK := aB.kp (wP.f3.f3.f3)
 refine fQ yK (by kernel_rfl) ?_
 refine kE 17 rfl (wW rfl func27 (DJ wP.f3)) ?_
 rintro _ MN ⟨rfl, uO⟩
 have wZ := aB.kp (uO.f3.f3.f3)
 refine fQ wZ (by kernel_rfl) ?_
 refine jg 18 rfl wZ (fun _ => gG rfl) (pO (aj (aJ (aI (.inl rfl) results11 rfl ?_))))
 exact ⟨rfl, uO.f2.right.f2.right⟩
end
end Go.Proofs.YtgndbccogcofjaaGreatDoor
end
section
namespace Go.Proofs.YtgndbccogcofjaaGreatDoor
open Go.RowKit
open _root_.Go.Proofs.Tryz
def bg.rP (s : bg) (l : List Int) : Int := if s.dP then 1 else if 1024 < l.length then 3 else 0
def bg.GI (s : bg) (hl : List oQ) (base most : Int) (l : List Int) : bg := if s.rP l = 0 then s.start hl base most l else s
theorem PN {s : bg} (h : jV s) (hi : s.dP = false) (hl : List oQ) (base most : Int) (l : List Int) : jV (s.start hl base most l) := by
  obtain ⟨h1, h2, h3, h4, h5, h6⟩ := h
  refine ⟨IV _ _ _ _ _, fun h => absurd (show s.dP = true from h) (by rw [hi]; decide), ⟨by show (-1 : Int) ≤ -1; decide, by show (-1 : Int) ≤ 1000000; decide⟩, h4, ?_, by simp [bg.start, kY.fresh]⟩
  show dS [] s.put ≤ 16384
  unfold dS at *; simp at *; omega
section
variable {w0 w : World} {F : HP} {e p h pr : Nat} {s : bg} {hl : List oQ} {base most m : Int} {v : Value} {l : List Int}
theorem yU (H : aB w0 w (dw e s • fC h hl base most • F)) (hr : gW w0 F .i32 v l) : fO prog 41 #[.pointer (some ⟨e, 0, none⟩), .pointer (some ⟨h, 0, none⟩), v] w fun v' w' =>
  v' = .int .i64 (s.rP l) ∧ aB w0 w' (dw e (s.GI hl base most l) • fC h hl base most • F) := by
 unfold bg.GI
 refine gB func41 ntmps41 ?_
 dsimp only [bf, Nat.reduceAdd]
 refine ay (ah (aV rfl (aA (aj (ay (bC (ay (ah (aN rfl (bZ rfl func32 (kL H) ?_))))))))))
 rintro _ _ ⟨rfl, rfl⟩
 refine aN rfl (aZ (aN rfl (aZ (bZ rfl func45 (mQ H.f2) ?_))))
 rintro _ w2 ⟨q2, rfl, H2⟩
 refine aZ (aX (fA underlying33 rfl rfl) (eG rfl rfl (aV rfl (aA (aj (aO rfl (fun h => by exfalso; (try simp only [aH] at h); simp at h) (fun h1 => ?_)))))))
 (try simp only [aH] at h1)
 refine ay ?_
 have Xa := H2.right
 obtain ⟨qG, qH, qI, qJ, qK, qL, qM, qN, oU, mZ, ng, ni, ny, nC, nD, nG, nH, nI, nJ, nK, dF, bG, gK, dH⟩ := (Xa.f2).Bf
 refine ah (aN rfl (bP rfl (bF 16 underlying37 rfl sizeOf4 rfl (dV underlying4 rfl (dH).get.2 rfl (aV rfl (aA (aj (aO rfl (fun h2 => ?_) (fun h2 => ?_)))))))))
 ·(try simp only [aH] at h2)
  have hin := h2
  have hE : s.rP l = 1 := by unfold bg.rP; rw [if_pos hin]
  refine ay (ah (aV rfl (aA (aj (aJ (aW (aK (aI (.inl rfl) results41 rfl ?_))))))))
  have Ug := dH.f11.f11.f11.f11.f11.f11.f11.f11.f11.f11.f11
  have Uh := aB.dG (s := s) dF bG Ug
  exact ⟨by rw [hE], by rw [if_neg (by rw [hE]; decide)]; exact Uh.f2.f2⟩
 ·(try simp only [aH] at h2)
  have hin : s.dP = false := by simpa using h2
  refine ay (ah (aN rfl (aX (jr (hr _ (dH.right.right.right.right.right.right.right.right.right.right.right.right)) underlying22 rfl) (aX (dn rfl rfl) (aV rfl (aA (aj (aO rfl (fun h3 => ?_) (fun h3 => ?_)))))))))
  ·(try simp only [aH] at h3)
   have hbig := h3
   have hE : s.rP l = 3 := by unfold bg.rP; rw [if_neg (by simp [hin]), if_pos (by omega)]
   refine ay (ah (aV rfl (aA (aj (aJ (aW (aK (aI (.inl rfl) results41 rfl ?_))))))))
   have Ho9 := dH.f11.f11.f11.f11.f11.f11.f11.f11.f11.f11.f11
   have ZI := aB.dG (s := s) dF bG Ho9
   exact ⟨by rw [hE], by rw [if_neg (by rw [hE]; decide)]; exact ZI.f2.f2⟩
  ·(try simp only [aH] at h3)
   have hE : s.rP l = 0 := by unfold bg.rP; rw [if_neg (by simp [hin]), if_neg (by have h9 := h3; omega)]
   have hsh : l.length ≤ 1024 := by have h9 := h3; omega
   refine aP (aQ (aj (ay (ah (aN rfl (aN rfl (aN rfl (bZ rfl func110 (xw (E := s.c.E) (a := s.c.at_) dH.f2.right.f3.right.f3.right.f3.right.f3.right.f6.f6.f6.f6.f6.f7.f7 (fun W HW => hr W HW.right.right.right.right.right) hsh) ?_))))))))
   rintro _ Hz ⟨qb, qw, qt, qm, qh, vk⟩
   refine aA (aj (ay (ah (aV rfl (aA (aj (aJ (aI (.inl rfl) results41 rfl ?_))))))))
   exact ⟨by rw [hE], by rw [if_pos hE]; exact aB.dG (s := s.start hl base most l) (PN dF hin _ _ _ _) bG vk.f7.f12.f12.f12.f12.f11.f11.f11.f11.f12.f12.f12⟩
end
end Go.Proofs.YtgndbccogcofjaaGreatDoor
end
section
namespace Go.Proofs.YtgndbccogcofjaaGreatDoor
open Go.RowKit
open _root_.Go.Proofs.Tryz
def vY (l : List oQ) : Int := if l.any (fun x => decide (16384 < x.1.size)) then 3 else if l.any (fun x => decide (x.2 < 0)) then 1 else 0
theorem PO {l : List oQ} {k : Nat} (hk : k < l.length) : l.getD k default ∈ l := by rw [List.getD_eq_getElem?_getD, List.getElem?_eq_getElem hk]; exact List.getElem_mem hk
theorem PS {l : List oQ} {p : oQ → Prop} (h : ∀ k, k < l.length → p (l.getD k default)) : ∀ x ∈ l, p x := by
  intro x hx
  obtain ⟨k, hk, rfl⟩ := List.getElem_of_mem hx
  have := h k hk
  rwa [List.getD_eq_getElem?_getD, List.getElem?_eq_getElem hk] at this
theorem Nz {l : List oQ} {k : Nat} (hk : k < l.length) (h : (16384 : Int) < (l.getD k default).1.size) : vY l = 3 := by
  unfold vY
  rw [if_pos (List.any_eq_true.2 ⟨_, PO hk, decide_eq_true (by omega)⟩)]
theorem DL {l : List oQ} (h1 : ∀ k, k < l.length → ¬ (16384 : Int) < (l.getD k default).1.size) : vY l = if l.any (fun x => decide (x.2 < 0)) then 1 else 0 := by
  unfold vY
  rw [if_neg]
  intro c
  obtain ⟨x, hx, hd⟩ := List.any_eq_true.1 c
  have := PS (p := fun x => ¬ (16384 : Int) < x.1.size) h1 x hx
  simp at hd; omega
theorem PU {l : List oQ} (h1 : ∀ k, k < l.length → ¬ (16384 : Int) < (l.getD k default).1.size) {k : Nat} (hk : k < l.length) (h : (l.getD k default).2 < 0) : vY l = 1 := by
  rw [DL h1, if_pos (List.any_eq_true.2 ⟨_, PO hk, by simpa using h⟩)]
theorem Rt {l : List oQ} (h1 : ∀ k, k < l.length → ¬ (16384 : Int) < (l.getD k default).1.size) (h2 : ∀ k, k < l.length → ¬ (l.getD k default).2 < 0) : vY l = 0 := by
  rw [DL h1, if_neg]
  intro c
  obtain ⟨x, hx, hd⟩ := List.any_eq_true.1 c
  exact PS (p := fun x => ¬ x.2 < 0) h2 x hx (by simpa using hd)
theorem PV {l : List oQ} (h : vY l = 0) : ∀ x ∈ l, VX x := by
  intro x hx
  unfold vY at h
  split at h
  · simp at h
  · rename_i h1
    split at h
    · simp at h
    · rename_i h2
      simp only [List.any_eq_true, not_exists, not_and, decide_eq_true_eq] at h1 h2
      exact ⟨by have := h1 x hx; omega, by have := h2 x hx; omega⟩
theorem LV (l : List oQ) (n : Nat) : (l.flatMap lC).drop (n * 2) = (l.drop n).flatMap lC := by
  induction l generalizing n with
  | nil => simp
  | cons x l ih =>
    cases n with
    | zero => simp
    | succ n => rw [show (n + 1) * 2 = n * 2 + 2 from by omega, List.flatMap_cons, List.drop_succ_cons, ← ih n]; simp [lC, List.drop_append]
theorem Ru (l : List oQ) : (l.flatMap lC).length = l.length * 2 := by induction l with
  | nil => rfl
  | cons x l ih => rw [List.flatMap_cons, List.length_append, ih, zB, List.length_cons]; omega
theorem Rw {W : World} {v : Value} {l : List oQ} {n : Nat} (h : Rd W 2 v l.length (l.flatMap lC)) (hn : n ≤ l.length) : Rd W 2 (lZ 2 n l.length v) (l.drop n).length ((l.drop n).flatMap lC) := by
  have h1 := h.cut hn (Nat.le_refl _)
  rw [List.take_of_length_le (by rw [LV, Ru]; simp), LV] at h1
  rwa [List.length_drop]
section
variable {P : Program} {L : List (Nat × Value)} {w0 w : World} {F : HP} {p : Nat} {hl l : List oQ} {base most : Int} {v : Value}
theorem GK (H : aB w0 w F) (hv : Jk w0 F 2 v l.length (l.flatMap lC)) (hb : l.length ≤ 35184372087808) : fO prog 182 #[v] w fun v' w' => v' = .int .i64 (vY l) ∧ aB w0 w' F := by
 refine gB func182 ntmps182 ?_
 dsimp only [bf, Nat.reduceAdd]
 refine ay (ah (aV rfl (aA (aj (ay (ay (ah (aN rfl (aX (iM (hv _ (H)) underlying47 rfl) (aN rfl (aA (aj (bC ?_)))))))))))))
 refine iw [(0, _), (7, _), (8, _)] (fun (k : Nat) => [(9, .int .i64 (k : Int))]) (fun (k : Nat) W => (k ≤ l.length ∧ ∀ i, i < k → ¬ (16384 : Int) < (l.getD i default).1.size) ∧ aB w0 W F) (fun (k : Nat) => l.length - k) (0) (Sub.cons rfl (Sub.cons rfl (Sub.cons rfl (Sub.nil _)))) (Sub.cons rfl (Sub.nil _)) ⟨⟨by omega, fun i hi => absurd hi (by omega)⟩, H⟩ ?_
 rintro k w1 ⟨⟨hk, hsh⟩, HL⟩
 dsimp only [List.cons_append, List.nil_append]
 refine ay (ah (aX (eu rfl rfl) (aA (aj (ay (aO rfl (fun h1 => ?_) (fun h1 => ?_)))))))
 ·(try simp only [aH] at h1)
  refine aP (aj (ay (bC (ay ?_))))
  have hkl : k < l.length := by omega
  refine ah ?_
  obtain ⟨bv, ov, cv, ev⟩ := Rd.BL (hv _ (HL)) (by omega)
  cases ev
  refine aX (iV underlying47 sizeOf128 rfl rfl (by omega)) (aX (kJ (ys := [_, _]) (hv _ (HL)) (by omega) underlying128 rfl sizeOf128 rfl (nZ zB (by omega) default) rfl) (jh (gJ (l := [_, _]) HL zeroValue128 rfl) ?_))
  rintro _ w2 ⟨b2, rfl, H2⟩
  refine aG (cZ 0 (l' := [_, _]) (us := [_, _]) H2 sizeOf128 rfl rfl rfl (aC (by first | rfl | assumption) (aC (by first | rfl | assumption) bV)) rfl rfl) ?_
  rintro _ w3 H3
  refine aA (aj (ay (ah (bF 0 underlying128 rfl sizeOf9 rfl (dV underlying9 rfl (H3).get.2 rfl (aX (MC underlying9 rfl) (aX (dn rfl rfl) (aA (aj (aO rfl (fun h2 => ?_) (fun h2 => ?_)))))))))))
  ·(try simp only [aH] at h2)
   have hkb := h2
   refine ay (ah (aV rfl (aA (aj (aJ (aW (aK (aK (aW (aK (aI (.inl rfl) results182 rfl ?_)))))))))))
   exact ⟨by rw [Nz hkl hkb], H3.right⟩
  ·(try simp only [aH] at h2)
   have hks : ¬ (16384 : Int) < (l.getD k default).1.size := by have h9 := h2; omega
   refine aP (aQ (aj (ah (aX (gy rfl rfl (by omega)) (aN rfl (aA ?_))))))
   refine fE (k + 1) ?_ ?_ ?_ ?_
   ·exact (Sub.cons rfl (Sub.nil _))
   ·exact (Sub.cons rfl (Sub.cons rfl (Sub.cons rfl (Sub.nil _))))
   ·(try dsimp only)
    first | done | exact ⟨⟨by omega, fun i hi => (show i < k ∨ i = k from by omega).elim (hsh i) (fun c => c ▸ hks)⟩, H3.right⟩
   ·(try dsimp only); omega
 ·(try simp only [aH] at h1)
  refine eX (aY (aY (bU (aj (ay (ay ?_))))))
  obtain rfl : k = l.length := by omega
  refine ah (aN rfl (aX (iM (hv _ (HL)) underlying47 rfl) (aN rfl (aA (aj (bC ?_))))))
  refine iw [(18, _), (19, _)] (fun (k2 : Nat) => [(20, .int .i64 (k2 : Int))]) (fun (k2 : Nat) W => (k2 ≤ l.length ∧ ∀ i, i < k2 → ¬ (l.getD i default).2 < 0) ∧ aB w0 W F) (fun (k2 : Nat) => l.length - k2) (0) (Sub.cons rfl (Sub.cons rfl (Sub.nil _))) (Sub.cons rfl (Sub.nil _)) ⟨⟨by omega, fun i hi => absurd hi (by omega)⟩, HL⟩ ?_
  rintro k2 w4 ⟨⟨hk2, hpo⟩, HL2⟩
  dsimp only [List.cons_append, List.nil_append]
  refine ay (ah (aX (eu rfl rfl) (aA (aj (ay (aO rfl (fun h3 => ?_) (fun h3 => ?_)))))))
  ·(try simp only [aH] at h3)
   refine aP (aj (ay (bC (ay ?_))))
   have hkl2 : k2 < l.length := by omega
   refine ah ?_
   obtain ⟨bv, ov, cv, ev⟩ := Rd.BL (hv _ (HL2)) (by omega)
   cases ev
   refine aX (iV underlying47 sizeOf128 rfl rfl (by omega)) (aX (kJ (ys := [_, _]) (hv _ (HL2)) (by omega) underlying128 rfl sizeOf128 rfl (nZ zB (by omega) default) rfl) (jh (gJ (l := [_, _]) HL2 zeroValue128 rfl) ?_))
   rintro _ w5 ⟨b5, rfl, H5⟩
   refine aG (cZ 0 (l' := [_, _]) (us := [_, _]) H5 sizeOf128 rfl rfl rfl (aC (by first | rfl | assumption) (aC (by first | rfl | assumption) bV)) rfl rfl) ?_
   rintro _ w6 H6
   refine aA (aj (ay (ah (bF 1 underlying128 rfl sizeOf2 rfl (dV underlying2 rfl (H6).get.2 rfl (aX (eu rfl rfl) (aA (aj (aO rfl (fun h4 => ?_) (fun h4 => ?_))))))))))
   ·(try simp only [aH] at h4)
    have hkn := h4
    refine ay (ah (aV rfl (aA (aj (aJ (aW (aK (aK (aW (aK (aI (.inl rfl) results182 rfl ?_)))))))))))
    exact ⟨by rw [PU hsh hkl2 hkn], H6.right⟩
   ·(try simp only [aH] at h4)
    have hkp : ¬ (l.getD k2 default).2 < 0 := by have h9 := h4; omega
    refine aP (aQ (aj (ah (aX (gy rfl rfl (by omega)) (aN rfl (aA ?_))))))
    refine fE (k2 + 1) ?_ ?_ ?_ ?_
    ·exact (Sub.cons rfl (Sub.nil _))
    ·exact (Sub.cons rfl (Sub.cons rfl (Sub.nil _)))
    ·(try dsimp only)
     first | done | exact ⟨⟨by omega, fun i hi => (show i < k2 ∨ i = k2 from by omega).elim (hpo i) (fun c => c ▸ hkp)⟩, H6.right⟩
    ·(try dsimp only); omega
  ·(try simp only [aH] at h3)
   refine eX (aY (aY (bU (aj (ay ?_)))))
   obtain rfl : k2 = l.length := by omega
   refine ah (aV rfl (aA (aj (aJ (aI (.inl rfl) results182 rfl ?_)))))
   exact ⟨by rw [Rt hsh hpo], HL2⟩
def nS (hl : List oQ) (most : Int) : Nat := hl.length - most.toNat
theorem zI (H : aB w0 w (dB p (.cells #[v, .int .i64 base, .int .i64 most] 132 (0, 0)) • Row 128 2 v hl.length (hl.flatMap lC) • F)) (hm : 0 ≤ most ∧ most ≤ 4096) (hb : 1 ≤ base ∧ base ≤ 2305843009213693952) (hn : hl.length ≤ 70368744177664) :
  fO prog 183 #[.pointer (some ⟨p, 0, none⟩)] w fun _ w' => ∃ v', aB w0 w' (dB p (.cells #[v', .int .i64 (base + nS hl most), .int .i64 most] 132 (0, 0)) • Row 128 2 v' (hl.drop (nS hl most)).length ((hl.drop (nS hl most)).flatMap lC) • F) := by
 refine gB func183 ntmps183 ?_
 dsimp only [bf, Nat.reduceAdd]
 refine ay ?_
 have NC := H.drew
 have qZ := aB.kp (NC.f2.f2)
 refine yZ [4, 10] qZ rfl (iF 0 rfl qZ rfl (jQ 1 rfl qZ rfl (gV 2 rfl qZ 0 underlying132 rfl sizeOf130 rfl (gV 3 rfl qZ 0 underlying130 rfl sizeOf47 rfl (jk 4 rfl qZ (fun W hW => jP underlying47 rfl ((Kp.h hW)).get.2 rfl) (jg 5 rfl qZ (fun _ => iM ((NC.f2).aT) underlying47 rfl) (iF 6 rfl qZ rfl (jQ 7 rfl qZ rfl (gV 8 rfl qZ 0 underlying132 rfl sizeOf130 rfl (gV 9 rfl qZ 2 underlying130 rfl sizeOf3 rfl (jk 10 rfl qZ (fun W hW => jP underlying3 rfl ((Kp.h hW)).get.2 rfl) (jg 11 rfl qZ (fun _ => iG rfl rfl (by omega)) (jg 12 rfl qZ (fun _ => gG rfl) (pO (aj (ay (ah (aN rfl (aX (dn rfl rfl) (aA (aj (aO rfl (fun h1 => ?_) (fun h1 => ?_)))))))))))))))))))))))
 ·(try simp only [aH] at h1)
  have hk : (nS hl most : Int) = (hl.length : Int) - most := by have h9 := h1; unfold nS; omega
  refine ay (ah (aN rfl (aN rfl (bP rfl (bF 0 underlying132 rfl sizeOf130 rfl (bF 0 underlying130 rfl sizeOf47 rfl (dV underlying47 rfl (NC).get.2 rfl (aN rfl (aX (BM ((NC.f2).aT) underlying47 sizeOf128 rfl rfl rfl (by omega)) (bZ rfl func118 (yM (hl := hl.drop (nS hl most)) NC (fun W HW => by rw [show ((hl.length : Int) - most).toNat = nS hl most from by omega, show ((hl.length : Nat) : Int).toNat = hl.length from by omega]; exact Rw HW.f2.aT (by unfold nS; omega)) (by rw [List.length_drop]; unfold nS; omega)) ?_))))))))))
  rintro u1 w1 H1
  refine bP rfl (bF 0 underlying132 rfl sizeOf130 rfl (bF 0 underlying130 rfl sizeOf47 rfl (aG (aS 0 (l' := [_, _, _]) H1.f2 sizeOf47 rfl rfl (by first | rfl | exact Rd.one ((H1).aT)) rfl rfl) ?_)))
  rintro _ w2 H2
  refine aA (aj (ah (aN rfl (bP rfl (bF 0 underlying132 rfl sizeOf130 rfl (bF 1 underlying130 rfl sizeOf2 rfl (dV underlying2 rfl (H2).get.2 rfl (aN rfl (aX (gy rfl rfl (by omega)) (bP rfl (bF 0 underlying132 rfl sizeOf130 rfl (bF 1 underlying130 rfl sizeOf2 rfl (aG (aS 1 (l' := [_, _, _]) H2 sizeOf2 rfl rfl (by first | rfl | assumption) rfl rfl) ?_)))))))))))))
  rintro _ w3 H3
  refine aA (fZ (.inr rfl) results183 ?_)
  exact ⟨_, by rw [hk]; exact H3.f3.right.f2.f2⟩
 ·(try simp only [aH] at h1)
  have hk : nS hl most = 0 := by have h9 := h1; unfold nS; omega
  refine aP (fZ (.inr rfl) results183 ?_)
  exact ⟨_, by rw [hk]; simpa using NC⟩
theorem Xb {hl l : List oQ} {base most : Int} (h : VY hl base most) (hb : hl.length + l.length ≤ 5864062014805) (hm : vY l = 0) (hbase : base ≤ 1152921504606846976) : VY ((hl ++ l).drop (nS (hl ++ l) most)) (base + nS (hl ++ l) most) most := by
  obtain ⟨h1, h2, h3, h4, h5, h6⟩ := h
  have hl1 : (hl ++ l).length = hl.length + l.length := List.length_append
  refine ⟨?_, ?_, ?_, ?_, h5, fun x hx => ?_⟩
  · rw [List.length_drop]; unfold nS; omega
  · omega
  · unfold nS; omega
  · rw [List.length_drop]; unfold nS; omega
  · rcases List.mem_append.1 (List.mem_of_mem_drop hx) with c | c
    · exact h6 x c
    · exact PV hm x c
def PW (hl : List oQ) (most : Int) (l : List oQ) : List oQ := if vY l = 0 then (hl ++ l).drop (nS (hl ++ l) most) else hl
def PX (hl : List oQ) (base most : Int) (l : List oQ) : Int := if vY l = 0 then base + nS (hl ++ l) most else base
theorem GL (H : aB w0 w (fC p hl base most • F)) (hv : Jk w0 F 2 v l.length (l.flatMap lC)) (hb : hl.length + l.length ≤ 5864062014805) (hbase : base ≤ 1152921504606846976) :
  fO prog 108 #[.pointer (some ⟨p, 0, none⟩), v] w fun v' w' => v' = .int .i64 (vY l) ∧ aB w0 w' (fC p (PW hl most l) (PX hl base most l) most • F) := by
 refine gB func108 ntmps108 ?_
 dsimp only [bf, Nat.reduceAdd]
 refine ay (ah (aV rfl (aA (aj (ay (ay (ah (aN rfl (bZ rfl func117 (rJ H) ?_)))))))))
 rintro _ _ ⟨rfl, rfl⟩
 refine aA (aj (nN (aP (aj (ay (ay (ah (aN rfl (bZ rfl func182 (GK H (fun W HW => hv _ (HW.right)) (by omega)) ?_)))))))))
 rintro _ w2 ⟨rfl, H2⟩
 refine aV rfl (aA (aj (ay (ah (aN rfl (aX (dU rfl rfl) (aA (aj (aO rfl (fun h1 => ?_) (fun h1 => ?_))))))))))
 ·(try simp only [aH] at h1)
  have hm := h1
  refine ay (ah (aN rfl (aV rfl (aA (aj (aJ (aK (aI (.inl rfl) results108 rfl ?_))))))))
  exact ⟨rfl, by unfold PW PX; rw [if_neg hm, if_neg hm]; exact H2⟩
 ·(try simp only [aH] at h1)
  have hm : vY l = 0 := h1
  refine aP (aj (ay ?_))
  obtain ⟨Uf, xK, Dl⟩ := (H2).hist
  have hkl := xK.1
  have hon := @Lj l
  refine ah (aN rfl (aN rfl (bP rfl (bF 0 underlying132 rfl sizeOf130 rfl (bF 0 underlying130 rfl sizeOf47 rfl (dV underlying47 rfl (Dl).get.2 rfl (aN rfl (jh (iC Dl.f2 underlying47 (show (prog.info? 128).map (fun i => (i.zero, i.size, i.bytes)) = some (some (.agg #[.string .empty, .int .i64 0]), 2, 24) by kernel_rfl) rfl rfl rfl (hv _ (Dl.right.right)) (by assumption) (by omega) (by omega)) ?_))))))))
  rintro l4 w4 H4
  refine bP rfl (bF 0 underlying132 rfl sizeOf130 rfl (bF 0 underlying130 rfl sizeOf47 rfl (aG (aS 0 (l' := [_, _, _]) H4.f2 sizeOf47 rfl rfl (by first | rfl | exact Rd.one ((H4).aT)) rfl rfl) ?_)))
  rintro _ w5 H5
  refine aA (aj (ay (ah (aN rfl (bZ rfl func183 (zI (hl := hl ++ l) (by rw [List.flatMap_append, List.length_append]; exact H5.f2.f2) ⟨by have := xK.2.2.2.1; omega, xK.2.2.2.2.1⟩ ⟨xK.2.1, by omega⟩ (by have := xK.1; rw [List.length_append]; omega)) ?_)))))
  rintro _ w6 ⟨v2, H6⟩
  refine aA (aj (ay (ah (aV rfl (aA (aj (aJ (aI (.inl rfl) results108 rfl ?_))))))))
  exact ⟨by rw [hm], by unfold PW PX; rw [if_pos hm, if_pos hm]; exact aB.uy (Xb xK hb hm hbase) H6⟩
theorem vZ {n : Int} (H : aB w0 w F) (hn : 0 ≤ n ∧ n ≤ 4096) (hv : Jk w0 F 2 v l.length (l.flatMap lC)) (hb : l.length ≤ 5864062014805) (hm : vY l = 0) : fO prog 39 #[.int .i64 n, v] w fun v' w' =>
  ∃ p, v' = .tuple #[.pointer (some ⟨p, 0, none⟩), .int .i64 0] ∧ aB w0 w' (fC p (PW [] n l) (PX [] 1 n l) n • F) := by
 refine gB func39 ntmps39 ?_
 dsimp only [bf, Nat.reduceAdd]
 refine ay (ah (aV rfl (aV rfl (aA (aj (ay (ah (aN rfl (bZ rfl func107 (Gn H (by omega)) ?_)))))))))
 rintro _ w1 ⟨p1, rfl, H1⟩
 refine aN rfl (AZ rfl rfl (AZ rfl rfl (aV rfl (aV rfl (aA (aj (ay (ay (ah (aN rfl (aX (dU rfl rfl) (aA (aj (aO rfl (fun h => by exfalso; (try simp only [aH] at h); simp at h) (fun h1 => ?_)))))))))))))))
 (try simp only [aH] at h1)
 refine aP (aj (ay (ay (ah (aN rfl (aN rfl (bZ rfl func108 (GL H1 hv (by simp; omega) (by decide)) ?_)))))))
 rintro _ w2 ⟨rfl, H2⟩
 refine aV rfl (aA (aj (ay (ah (aN rfl (aX (dU rfl rfl) (aA (aj (aO rfl (fun h => by exfalso; (try simp only [aH] at h); exact h hm) (fun h2 => ?_))))))))))
 (try simp only [aH] at h2)
 refine aP (aj (ay (ah (aN rfl (aV rfl (aV rfl (aA (aj (aJ (lH (.inl rfl) results39 rfl rfl ?_))))))))))
 exact ⟨_, rfl, H2⟩
end
def Fa (l : List oQ) : List oQ := PW [] 4096 l
def Fb (l : List oQ) : Int := PX [] 1 4096 l
end Go.Proofs.YtgndbccogcofjaaGreatDoor
end
section
namespace Go.Proofs.YtgndbccogcofjaaGreatDoor
open Go.RowKit
structure Out (s : bg) (L : List Int) (pt : Int) (G : List (List dX)) (run : Bool) : Prop where
  dP : s.dP = false
  L : s.c.L = L
  pt : s.c.pt = pt
  G : s.c.un s.c.place = G
  run : s.c.run = run
  over : s.c.over = false
structure SV (s : bg) (L : List Int) (pt : Int) (G : List (List dX)) (run : Bool) : Prop where
  dP : s.dP = true
  L : s.c.L = L
  pt : s.c.pt = pt
  G : s.c.un s.c.place = G
  run : s.c.run = run
  over : s.c.over = false
  put : s.put = []
  cls : s.cls = 0
  whole : s.whole = true
section
variable {s : bg} {L : List Int} {pt : Int} {G : List (List dX)} {run : Bool} {r : Int}
theorem Out.begin (h : Out s L pt G run) : SV s.aU L pt G run ∧ s.zC = 0 := by
  unfold bg.aU bg.zC
  rw [if_neg (by rw [h.dP]; decide), if_neg (by rw [h.dP]; decide)]
  exact ⟨⟨rfl, h.L, h.pt, h.G, h.run, h.over, rfl, rfl, rfl⟩, rfl⟩
def Je (G : List (List dX)) (run : Bool) (x : dX) : List (List dX) := if run then (match G.getLast? with | some g => G.dropLast ++ [g ++ [x]] | none => [[x]]) else G ++ [[x]]
theorem SV.SX (h : SV s L pt G run) (h1 : 0 ≤ pt ∧ pt ≤ L.length) (h2 : L.length < 1024) (h3 : dS G [] < 16384) :
    s.O4 [r] = 0 ∧ s.xq [r] = { (s.iJ (L.take pt.toNat ++ [r] ++ L.drop pt.toNat) (pt + 1) (mG L s.c.mark pt pt [r])) with put := [(pt, [], [r])], cls := 3 } := by
  have hto : s.zD [r] = pt := by unfold bg.zD; rw [h.over]; exact h.pt
  have hE : iY L pt pt [r] = 0 := by unfold iY; rw [if_neg (by omega), if_neg (by simp; omega)]
  have hE' : s.jY s.c.pt (s.zD [r]) [r] = 0 := by unfold bg.jY; rw [if_pos h.dP, hto, h.pt, h.L]; exact hE
  have hP : kX L pt pt pt [r] = pt + 1 := by unfold kX bI; rw [if_pos hE, if_neg (by omega), if_pos (by omega)]; rfl
  have hD : jB L pt pt [r] = [] := by unfold jB; rw [if_pos hE]; simp
  have hI : jC L pt pt [r] = [r] := by unfold jC; rw [if_pos hE]
  have hA : nP L pt pt [r] = pt := by unfold nP; rw [if_pos hE]
  have hL : kW L pt pt [r] = L.take pt.toNat ++ [r] ++ L.drop pt.toNat := by unfold kW; rw [if_pos hE]
  have hS : s.jf s.c.pt (s.zD [r]) [r] = { (s.iJ (L.take pt.toNat ++ [r] ++ L.drop pt.toNat) (pt + 1) (mG L s.c.mark pt pt [r])) with put := [(pt, [], [r])] } := by
    unfold bg.jf
    rw [if_pos h.dP, hto, h.pt, h.L, hP, hD, hI, hA, hL]
    unfold bg.lD
    rw [if_neg (by simp), if_neg (by
      show ¬ 16384 ≤ dS (s.c.un s.c.place) s.put
      rw [h.G, h.put]; omega)]
    show _ = _
    unfold bg.iJ
    simp only [h.put, List.nil_append]
  refine ⟨hE', ?_⟩
  unfold bg.xq
  rw [if_pos h.dP]
  dsimp only
  rw [if_pos ⟨hE', h.cls⟩, hS]
theorem zJ (u : bg) (h : u.dP = true) : (u.gq 0).c.L = u.c.L := by by_cases ha : u.argues = true <;> by_cases hp : u.put = [] <;> by_cases hc : u.cls = 2 <;> simp [bg.gq, bg.iW, bg.dZ, bg.dJ, bg.qW, bg.jU, bg.iO, bg.here, fD, ha, hp, hc, h]
theorem yV (u : bg) (h : u.dP = true) : (u.gq 0).c.pt = u.c.pt := by by_cases ha : u.argues = true <;> by_cases hp : u.put = [] <;> by_cases hc : u.cls = 2 <;> simp [bg.gq, bg.iW, bg.dZ, bg.dJ, bg.qW, bg.jU, bg.iO, bg.here, fD, ha, hp, hc, h]
theorem ND (u : bg) (h : u.dP = true) : (u.gq 0).c.mark = u.c.mark := by by_cases ha : u.argues = true <;> by_cases hp : u.put = [] <;> by_cases hc : u.cls = 2 <;> simp [bg.gq, bg.iW, bg.dZ, bg.dJ, bg.qW, bg.jU, bg.iO, bg.here, fD, ha, hp, hc, h]
theorem PY (u : bg) (h : u.dP = true) : (u.gq 0).c.E = u.c.E := by by_cases ha : u.argues = true <;> by_cases hp : u.put = [] <;> by_cases hc : u.cls = 2 <;> simp [bg.gq, bg.iW, bg.dZ, bg.dJ, bg.qW, bg.jU, bg.iO, bg.here, fD, ha, hp, hc, h]
theorem Rx (u : bg) (h : u.dP = true) : (u.gq 0).c.at_ = u.c.at_ := by by_cases ha : u.argues = true <;> by_cases hp : u.put = [] <;> by_cases hc : u.cls = 2 <;> simp [bg.gq, bg.iW, bg.dZ, bg.dJ, bg.qW, bg.jU, bg.iO, bg.here, fD, ha, hp, hc, h]
theorem Fe (u : bg) (h : u.dP = true) : (u.gq 0).c.over = u.c.over := by by_cases ha : u.argues = true <;> by_cases hp : u.put = [] <;> by_cases hc : u.cls = 2 <;> simp [bg.gq, bg.iW, bg.dZ, bg.dJ, bg.qW, bg.jU, bg.iO, bg.here, fD, ha, hp, hc, h]
theorem wo (u : bg) (h : u.dP = true) : (u.gq 0).dP = false := by by_cases ha : u.argues = true <;> by_cases hp : u.put = [] <;> by_cases hc : u.cls = 2 <;> simp [bg.gq, bg.iW, bg.dZ, bg.dJ, bg.qW, bg.jU, bg.iO, bg.here, fD, ha, hp, hc, h]
theorem NG (u : bg) (h : u.dP = true) : (u.gq 0).c.last = u.cls := by by_cases ha : u.argues = true <;> by_cases hp : u.put = [] <;> by_cases hc : u.cls = 2 <;> simp [bg.gq, bg.iW, bg.dZ, bg.dJ, bg.qW, bg.jU, bg.iO, bg.here, fD, ha, hp, hc, h]
theorem Jf (u : bg) (h : u.dP = true) : (u.gq 0).c.run = (u.typed && (!u.put.isEmpty || u.c.run)) := by by_cases ha : u.argues = true <;> by_cases hp : u.put = [] <;> by_cases hc : u.cls = 2 <;> simp [bg.gq, bg.iW, bg.dZ, bg.dJ, bg.qW, bg.jU, bg.iO, bg.here, fD, ha, hp, hc, h]
theorem LW (u : bg) (h : u.dP = true) : (u.gq 0).c.un (u.gq 0).c.place = u.iO (u.typed && u.c.run) := by by_cases ha : u.argues = true <;> by_cases hp : u.put = [] <;> by_cases hc : u.cls = 2 <;> simp [bg.gq, bg.iW, bg.dZ, bg.dJ, bg.qW, bg.jU, bg.iO, bg.here, fD, ha, hp, hc, h]
theorem SV.typed (h : SV s L pt G run) (h1 : 0 ≤ pt ∧ pt ≤ L.length) (h2 : L.length < 1024) (h3 : dS G [] < 16384) :
    Out ((s.xq [r]).gq 0) (L.take pt.toNat ++ [r] ++ L.drop pt.toNat) (pt + 1) (Je G run (pt, [], [r])) true ∧ (s.xq [r]).qo 0 = 0 := by
  obtain ⟨_, e⟩ := h.SX (r := r) h1 h2 h3
  have hu : (s.xq [r]).dP = true := by rw [e]; exact h.dP
  have hT : (s.xq [r]).typed = true := by rw [e]; show (((3 : Int) == 3) && s.whole) = true; rw [h.whole]; rfl
  have hp : (s.xq [r]).put = [(pt, [], [r])] := by rw [e]
  have hr : (s.xq [r]).c.run = run := by rw [e]; exact h.run
  have hh : (s.xq [r]).here = G := by rw [e]; exact h.G
  refine ⟨⟨wo _ hu, (zJ _ hu).trans (by rw [e]; rfl), (yV _ hu).trans (by rw [e]; rfl), ?_, ?_, (Fe _ hu).trans (by rw [e]; exact h.over)⟩, by unfold bg.qo; rw [if_pos hu]⟩
  · rw [LW _ hu, hT, hr, Bool.true_and]
    unfold bg.iO Je
    rw [if_neg (by rw [hp]; simp), hp, hh] <;> rfl
  · rw [Jf _ hu, hT, hp]; rfl
def Fg (s : bg) (r : Int) : bg := (s.aU.xq [r]).gq (s.aU.O4 [r])
theorem Out.Fg (h : Out s L pt G run) (h1 : 0 ≤ pt ∧ pt ≤ L.length) (h2 : L.length < 1024) (h3 : dS G [] < 16384) :
    Out (Fg s r) (L.take pt.toNat ++ [r] ++ L.drop pt.toNat) (pt + 1) (Je G run (pt, [], [r])) true := by
  unfold Go.Proofs.YtgndbccogcofjaaGreatDoor.Fg
  rw [(h.begin.1.SX (r := r) h1 h2 h3).1]
  exact (h.begin.1.typed h1 h2 h3).1
theorem NH (hi : s.dP = true) (hL : s.c.L = L) (hpt : s.c.pt = pt) (hG : s.here = G) (ho : s.c.over = false) (hp : s.put = []) (hc : s.cls = 0) : Out (s.gq 0) L pt G false := by
  have hT : s.typed = false := by unfold bg.typed; rw [hc]; rfl
  refine ⟨wo _ hi, (zJ _ hi).trans hL, (yV _ hi).trans hpt, ?_, ?_, (Fe _ hi).trans ho⟩
  · rw [LW _ hi]; unfold bg.iO; rw [if_pos hp]; exact hG
  · rw [Jf _ hi, hT]; rfl
theorem SV.end_ (h : SV s L pt G run) : Out (s.gq 0) L pt G false := NH h.dP h.L h.pt h.G h.over h.put h.cls
theorem Out.move (h : Out s L pt G run) (x : Int) (hx : 0 ≤ x ∧ x ≤ L.length) : Out ((s.aU.kZ x).gq 0) L x G false := by
  have hb := h.begin.1
  refine SV.end_ (s := s.aU.kZ x) (run := run) ?_
  unfold bg.kZ
  rw [if_pos hb.dP]
  refine ⟨hb.dP, hb.L, ?_, hb.G, hb.run, hb.over, hb.put, hb.cls, hb.whole⟩
  show QF s.aU.c.L.length s.aU.c.pt x = x
  unfold QF
  rw [if_pos (by rw [hb.L]; omega)]
end
end Go.Proofs.YtgndbccogcofjaaGreatDoor
end
section
namespace Go.Proofs.YtgndbccogcofjaaGreatDoor
open Go.RowKit
def Ry (p : Int) : List Int → List dX
  | [] => []
  | r :: l => (p, [], [r]) :: Ry (p + 1) l
theorem PZ (p : Int) (l : List Int) (r : Int) : Ry p (l ++ [r]) = Ry p l ++ [(p + l.length, [], [r])] := by
  induction l generalizing p with
  | nil => simp [Ry]
  | cons x l ih => simp only [List.cons_append, Ry, ih, List.length_cons]; rw [show p + 1 + (l.length : Int) = p + ((l.length + 1 : Nat) : Int) from by omega]
theorem Rz (p : Int) (l : List Int) : (Ry p l).length = l.length := by induction l generalizing p with
  | nil => rfl
  | cons x l ih => simp [Ry, ih]
def Ak (G : List (List dX)) (p : Int) (l : List Int) : List (List dX) := if l = [] then G else G ++ [Ry p l]
theorem NI (G : List (List dX)) (p : Int) (l : List Int) : dS (Ak G p l) [] = dS G [] + l.length := by
  unfold Ak dS; split
  · rename_i h; subst h; simp
  · simp [Rz]
theorem KA (G : List (List dX)) (p : Int) (l : List Int) (r : Int) : Je (Ak G p l) (!l.isEmpty) (p + l.length, [], [r]) = Ak G p (l ++ [r]) := by
  unfold Je Ak
  rw [if_neg (show l ++ [r] ≠ [] by simp)]
  cases l with
  | nil => simp [Ry]
  | cons x l => rw [if_neg (show ¬ x :: l = [] by simp)]; simp only [List.isEmpty_cons, Bool.not_false, if_true, List.getLast?_append, List.getLast?_singleton, Option.some_or, List.dropLast_concat, PZ]
theorem gU (s : bg) : s.aU.dP = true := by unfold bg.aU; split; assumption; rfl
section
variable {s : bg} {L : List Int} {pt : Int} {G : List (List dX)} {run : Bool} {r : Int}
def DN (s : bg) (l : List Int) : bg := l.foldl Fg s
theorem Out.DN (h : Out s L pt G false) (h1 : 0 ≤ pt ∧ pt ≤ L.length) (l : List Int) (h2 : L.length + l.length ≤ 1024) (h3 : dS G [] + l.length ≤ 16384) :
    Out (DN s l) (L.take pt.toNat ++ l ++ L.drop pt.toNat) (pt + l.length) (Ak G pt l) (!l.isEmpty) := by
  suffices hh : ∀ n (l : List Int), l.length = n → L.length + n ≤ 1024 → dS G [] + n ≤ 16384 → Out (Go.Proofs.YtgndbccogcofjaaGreatDoor.DN s l) (L.take pt.toNat ++ l ++ L.drop pt.toNat) (pt + l.length) (Ak G pt l) (!l.isEmpty) from hh _ l rfl h2 h3
  intro n
  induction n with
  | zero =>
    intro l hn _ _
    obtain rfl := List.length_eq_zero_iff.1 hn
    simpa [Ak, Go.Proofs.YtgndbccogcofjaaGreatDoor.DN] using h
  | succ n ih =>
    intro l hn h2 h3
    rcases List.eq_nil_or_concat l with rfl | ⟨l, r, rfl⟩
    · cases hn
    rw [List.concat_eq_append] at hn ⊢
    have hn2 : l.length = n := by simpa using hn
    have h4 := ih l hn2 (by omega) (by omega)
    have hl : (L.take pt.toNat ++ l ++ L.drop pt.toNat).length = L.length + l.length := by simp; omega
    have h5 := h4.Fg (r := r) (by rw [hl]; omega) (by rw [hl]; omega) (by rw [NI]; omega)
    have e1 : (L.take pt.toNat ++ l ++ L.drop pt.toNat).take (pt + l.length).toNat = L.take pt.toNat ++ l := by
      rw [List.take_append_of_le_length (by simp; omega), List.take_of_length_le (by simp; omega)]
    have e2 : (L.take pt.toNat ++ l ++ L.drop pt.toNat).drop (pt + l.length).toNat = L.drop pt.toNat := by
      rw [List.drop_append_of_le_length (by simp; omega), List.drop_of_length_le (by simp; omega), List.nil_append]
    rw [e1, e2, KA] at h5
    have e3 : Go.Proofs.YtgndbccogcofjaaGreatDoor.DN s (l ++ [r]) = Go.Proofs.YtgndbccogcofjaaGreatDoor.Fg (Go.Proofs.YtgndbccogcofjaaGreatDoor.DN s l) r := by unfold Go.Proofs.YtgndbccogcofjaaGreatDoor.DN; rw [List.foldl_append]; rfl
    rw [e3]
    rw [show pt + ((l ++ [r]).length : Int) = pt + l.length + 1 from by simp; omega, show (!(l ++ [r]).isEmpty) = true from by simp, ← List.append_assoc]
    exact h5
end
end Go.Proofs.YtgndbccogcofjaaGreatDoor
end
section
namespace Go.Proofs.YtgndbccogcofjaaGreatDoor
open Go.RowKit
section
variable {s : bg}
theorem RD (s : bg) (x : dX) : (s.lD x).c.L = s.c.L ∧ (s.lD x).c.pt = s.c.pt ∧ (s.lD x).c.mark = s.c.mark ∧ (s.lD x).c.E = s.c.E ∧ (s.lD x).c.at_ = s.c.at_ ∧ (s.lD x).dP = s.dP ∧ (s.lD x).cls = s.cls ∧ (s.lD x).was = s.was := by
  unfold bg.lD
  split
  · simp
  · split <;> simp [bg.jU]
theorem Bh (h : s.dP = true) (i j : Int) (l : List Int) : (s.jf i j l).c.L = kW s.c.L i j l ∧ (s.jf i j l).c.pt = kX s.c.L s.c.pt i j l ∧ (s.jf i j l).c.mark = mG s.c.L s.c.mark i j l ∧ (s.jf i j l).c.E = s.c.E ∧ (s.jf i j l).c.at_ = s.c.at_ ∧ (s.jf i j l).dP = true ∧ (s.jf i j l).cls = s.cls ∧ (s.jf i j l).was = s.was := by
  unfold bg.jf
  rw [if_pos h]
  obtain ⟨h1, h2, h3, h4, h5, h6, h7, h8⟩ := RD (s.iJ (kW s.c.L i j l) (kX s.c.L s.c.pt i j l) (mG s.c.L s.c.mark i j l)) (nP s.c.L i j l, jB s.c.L i j l, jC s.c.L i j l)
  exact ⟨h1, h2, h3, h4, h5, h6.trans h, h7, h8⟩
theorem KC (h : s.dP = true) {i j : Int} {back : Bool} (hi : 0 ≤ i ∧ i ≤ j ∧ j ≤ s.c.L.length) (hL : s.c.L.length ≤ 1024) (hk : (s.ku i j back).1 = 0) (hp : i ≤ s.c.pt ∧ s.c.pt ≤ j) :
    (s.nR i j back).c.L = s.c.L.take i.toNat ++ s.c.L.drop j.toNat ∧ (s.nR i j back).c.pt = i ∧ (s.nR i j back).c.E = (s.ku i j back).2.1 ∧ (s.nR i j back).c.at_ = (s.ku i j back).2.2 ∧ (s.nR i j back).dP = true ∧ (s.nR i j back).cls = 1 := by
  have hc : s.kK i j back = 0 := by
    unfold bg.kK
    rw [if_pos h, if_neg (by unfold bg.jL; omega), hk]
  have hE : iY s.c.L i j [] = 0 := by unfold iY; rw [if_neg (by omega), if_neg (by simp; omega)]
  unfold bg.nR
  rw [if_pos hc]
  have e : s.kC i j back = { s.yN (s.ku i j back).2.1 (s.ku i j back).2.2 with killed := true, cls := 1 } := by unfold bg.kC; rw [if_pos hc]
  have ei : (s.kC i j back).dP = true := by rw [e]; exact h
  obtain ⟨h1, h2, h3, h4, h5, h6, h7, h8⟩ := Bh ei i j []
  refine ⟨h1.trans ?_, h2.trans ?_, h4.trans (by rw [e]; rfl), h5.trans (by rw [e]; rfl), h6, h7.trans (by rw [e])⟩
  · rw [show (s.kC i j back).c.L = s.c.L from by rw [e]; rfl]
    unfold kW
    rw [if_pos hE]; simp
  · rw [show (s.kC i j back).c.L = s.c.L from by rw [e]; rfl, show (s.kC i j back).c.pt = s.c.pt from by rw [e]; rfl]
    unfold kX bI
    rw [if_pos hE]
    simp only [List.length_nil]
    split <;> (try split) <;> omega
end
structure wU (s : bg) (A : List Int) (a b : Int) : Prop where
  dP : s.dP = false
  ok : 0 ≤ a ∧ a ≤ b ∧ b ≤ A.length
  L : s.c.L = A.take a.toNat ++ A.drop b.toNat
  pt : s.c.pt = a
  ring : (s.c.E = [] ∧ a = b) ∨ (s.c.E = [(A.drop a.toNat).take (b.toNat - a.toNat)] ∧ s.c.at_ = 0 ∧ s.c.last = 1)
section
variable {s : bg} {A : List Int} {a b k : Int}
theorem wU.len (h : wU s A a b) : (s.c.L.length : Int) = A.length - (b - a) := by
  have := h.ok
  rw [h.L]; simp; omega
theorem dD (s : bg) : s.aU.c = s.c := by unfold bg.aU; split <;> rfl
theorem xU (h : wU s A a b) (hA : A.length ≤ 1024) {i j : Int} {back : Bool} {l : List Int} (hcut : s.aU.cut i j = l) (hl : l.length + (b - a) ≤ A.length) :
    (s.aU.ku i j back).1 = 0 ∧ ((s.aU.ku i j back).2.1 = [] ∧ l = [] ∧ a = b ∨ (s.aU.ku i j back).2.1 = [if back then l ++ (A.drop a.toNat).take (b.toNat - a.toNat) else (A.drop a.toNat).take (b.toNat - a.toNat) ++ l] ∧ (s.aU.ku i j back).2.2 = 0) := by
  have ho := h.ok
  have hb : s.aU.killed = false := by unfold bg.aU; rw [if_neg (by rw [h.dP]; decide)]
  unfold bg.ku
  rw [hcut, dD]
  rcases h.ring with ⟨h1, h2⟩ | ⟨h1, h2, h3⟩
  · rw [h1]
    have hx : (A.drop a.toNat).take (b.toNat - a.toNat) = [] := by rw [h2]; simp
    have hw : s.aU.way back = 0 ∨ s.aU.way back = 1 ∨ s.aU.way back = 2 := by unfold bg.way; split <;> (try split) <;> simp
    unfold vN
    rw [if_neg (by omega), if_neg (by omega), if_neg (by simp)]
    split
    · rename_i h4
      exact ⟨rfl, .inl ⟨rfl, List.length_eq_zero_iff.1 h4.2, h2⟩⟩
    · rw [hx]
      exact ⟨rfl, .inr ⟨by cases back <;> simp, rfl⟩⟩
  · rw [h1, h2]
    have hw : s.aU.way back = if back then 2 else 1 := by unfold bg.way; rw [if_pos (by rw [dD]; exact .inl h3)]
    have hlen : ((A.drop a.toNat).take (b.toNat - a.toNat)).length = b.toNat - a.toNat := by simp; omega
    rw [hw]
    unfold vN
    rw [if_neg (by cases back <;> simp), if_neg (by omega), if_pos (by cases back <;> simp), if_neg (by simp only [List.getD_cons_zero]; omega)]
    exact ⟨rfl, .inr ⟨by cases back <;> simp, rfl⟩⟩
theorem wU.step (h : wU s A a b) (hA : A.length ≤ 1024) {i j a' b' : Int} {back : Bool} {l : List Int} (hij : 0 ≤ i ∧ i ≤ j ∧ j ≤ s.c.L.length) (hp : i ≤ a ∧ a ≤ j) (hcut : s.aU.cut i j = l) (hl : l.length + (b - a) ≤ A.length)
    (ho : 0 ≤ a' ∧ a' ≤ b' ∧ b' ≤ A.length) (hi : i = a') (hL : s.c.L.take i.toNat ++ s.c.L.drop j.toNat = A.take a'.toNat ++ A.drop b'.toNat) (he : l = [] → a = b → a' = b')
    (hx : (if back then l ++ (A.drop a.toNat).take (b.toNat - a.toNat) else (A.drop a.toNat).take (b.toNat - a.toNat) ++ l) = (A.drop a'.toNat).take (b'.toNat - a'.toNat)) :
    wU ((s.aU.nR i j back).gq 0) A a' b' := by
  obtain ⟨h1, h2⟩ := xU h hA (back := back) hcut hl
  have hlen := h.len
  have hok := h.ok
  obtain ⟨k1, k2, k3, k4, k5, k6⟩ := KC (s := s.aU) (gU s) (i := i) (j := j) (back := back) (by rw [dD]; exact hij) (by rw [dD]; omega) h1 (by rw [dD, h.pt]; exact hp)
  rw [dD] at k1
  refine ⟨wo _ k5, ho, (zJ _ k5).trans (k1.trans hL), (yV _ k5).trans (k2.trans hi), ?_⟩
  rw [PY _ k5, Rx _ k5, NG _ k5, k3, k4, k6]
  rcases h2 with ⟨q1, q2, q3⟩ | ⟨q1, q2⟩
  · exact .inl ⟨q1, he q2 q3⟩
  · exact .inr ⟨by rw [q1, hx], q2, rfl⟩
theorem wU.back (h : wU s A a b) (hA : A.length ≤ 1024) (hk : 0 ≤ k ∧ k ≤ a) : wU ((s.aU.nR (s.aU.c.pt - k) s.aU.c.pt true).gq 0) A (a - k) b := by
  have hlen := h.len
  have hok := h.ok
  rw [dD, h.pt]
  have e1 : s.aU.cut (a - k) a = (A.drop (a - k).toNat).take k.toNat := by
    unfold bg.cut
    rw [dD, h.L, List.drop_append_of_le_length (by simp; omega), List.take_append_of_le_length (by simp; omega), List.drop_take]
    rw [List.take_take]; congr 1; omega
  refine h.step hA (l := (A.drop (a - k).toNat).take k.toNat) (by omega) (by omega) e1 (by simp; omega) (by omega) rfl ?_ ?_ ?_
  · rw [h.L, List.take_append_of_le_length (by simp; omega), List.take_take, List.drop_append, List.drop_of_length_le (by simp; omega), List.nil_append]
    rw [show min (a - k).toNat a.toNat = (a - k).toNat from by omega, show a.toNat - (A.take a.toNat).length = 0 from by simp; omega, List.drop_zero]
  · intro h1 h2
    have h3 := congrArg List.length h1
    simp at h3; omega
  · simp only [if_true]
    rw [show (A.drop a.toNat).take (b.toNat - a.toNat) = ((A.drop (a - k).toNat).drop k.toNat).take (b.toNat - a.toNat) from by rw [List.drop_drop]; congr 2; omega, show b.toNat - (a - k).toNat = k.toNat + (b.toNat - a.toNat) from by omega, List.take_add]
theorem wU.fwd (h : wU s A a b) (hA : A.length ≤ 1024) (hk : 0 ≤ k ∧ k ≤ A.length - b) : wU ((s.aU.nR s.aU.c.pt (s.aU.c.pt + k) false).gq 0) A a (b + k) := by
  have hlen := h.len
  have hok := h.ok
  rw [dD, h.pt]
  have hta : (A.take a.toNat).length = a.toNat := by simp; omega
  have e0 : s.c.L.drop a.toNat = A.drop b.toNat := by rw [h.L]; exact List.drop_left' hta
  have e1 : s.aU.cut a (a + k) = (A.drop b.toNat).take k.toNat := by
    unfold bg.cut
    rw [dD, e0]; congr 1; omega
  refine h.step hA (l := (A.drop b.toNat).take k.toNat) (by omega) (by omega) e1 (by simp; omega) (by omega) rfl ?_ ?_ ?_
  · rw [show (a + k).toNat = a.toNat + k.toNat from by omega, ← List.drop_drop, e0, List.drop_drop, show b.toNat + k.toNat = (b + k).toNat from by omega]
    rw [show s.c.L.take a.toNat = A.take a.toNat from by rw [h.L]; exact List.take_left' hta]
  · intro h1 h2
    have h3 := congrArg List.length h1
    simp at h3; omega
  · simp only [Bool.false_eq_true, if_false]
    rw [show A.drop b.toNat = (A.drop a.toNat).drop (b.toNat - a.toNat) from by rw [List.drop_drop]; congr 1; omega, show (b + k).toNat - a.toNat = (b.toNat - a.toNat) + k.toNat from by omega, List.take_add]
theorem wU.ZJ (h : wU s A a b) (hA : A.length ≤ 1024) : (a = b → ((s.aU.ji).gq s.aU.mV).c.L.length = A.length) ∧
    (a ≠ b → s.aU.mV = 0 ∧ ((s.aU.ji).gq s.aU.mV).c.L = A ∧ ((s.aU.ji).gq s.aU.mV).c.mark = a ∧ ((s.aU.ji).gq s.aU.mV).c.pt = b) := by
  have hlen := h.len
  have hok := h.ok
  have hi := gU s
  rcases h.ring with ⟨h1, h2⟩ | ⟨h1, h2, h3⟩
  · have hy : s.aU.mV = 6 := by unfold bg.mV; rw [if_pos hi, dD, h1]; rfl
    refine ⟨fun _ => ?_, fun c => absurd h2 c⟩
    have e1 : s.aU.ji = s.aU := by unfold bg.ji; rw [if_neg (by rw [hy]; decide)]
    rw [e1, hy]
    have e2 : (s.aU.gq 6).c.L = s.c.L := by
      unfold bg.gq; rw [if_pos hi, if_neg (by decide)]
      unfold bg.aU bg.uz; rw [if_neg (by rw [h.dP]; decide)]
    rw [e2]; omega
  · have htop : s.aU.top = (A.drop a.toNat).take (b.toNat - a.toNat) := by unfold bg.top; rw [dD, h1, h2]; rfl
    have htl : s.aU.top.length = b.toNat - a.toNat := by rw [htop]; simp; omega
    have hE : iY s.c.L a a s.aU.top = 0 := by unfold iY; rw [if_neg (by omega), if_neg (by omega)]
    have hy : s.aU.mV = 0 := by
      unfold bg.mV bg.IE bg.jY
      rw [if_pos hi, if_neg (by rw [dD, h1]; simp), if_pos hi, dD, h.pt, hE]
    have hta : (A.take a.toNat).length = a.toNat := by simp; omega
    have e0 : s.c.L.drop a.toNat = A.drop b.toNat := by rw [h.L]; exact List.drop_left' hta
    have e9 : s.c.L.take a.toNat = A.take a.toNat := by rw [h.L]; exact List.take_left' hta
    obtain ⟨r1, r2, r3, r4, r5, r6, r7, r8⟩ := Bh hi s.aU.c.pt s.aU.c.pt s.aU.top
    rw [dD, h.pt] at r1 r2
    have hI : s.aU.qp s.aU.top = s.aU.jf s.aU.c.pt s.aU.c.pt s.aU.top := rfl
    rw [dD, h.pt] at hI
    have hL2 : kW s.c.L a a s.aU.top = A := by
      unfold kW; rw [if_pos hE, e0, e9, htop]
      rw [show A.drop b.toNat = (A.drop a.toNat).drop (b.toNat - a.toNat) from by rw [List.drop_drop]; congr 1; omega, List.append_assoc, List.take_append_drop, List.take_append_drop]
    have hP2 : kX s.c.L a a a s.aU.top = b := by
      unfold kX bI; rw [if_pos hE]
      split <;> (try split) <;> omega
    have eY : s.aU.ji = (let t := s.aU.qp s.aU.top; { t with jX := true, cls := 2, c := { t.c with mark := QG t.c.L t.c.mark s.aU.c.pt, fr := s.aU.c.pt, to := s.aU.c.pt + s.aU.top.length } }) := by
      unfold bg.ji; rw [if_pos hy]
    have gL : s.aU.ji.c.L = A := by rw [eY]; show (s.aU.qp s.aU.top).c.L = A; rw [hI, dD, h.pt] at *; exact r1.trans hL2
    have gP : s.aU.ji.c.pt = b := by rw [eY]; show (s.aU.qp s.aU.top).c.pt = b; rw [hI]; exact r2.trans hP2
    have gI : s.aU.ji.dP = true := by rw [eY]; show (s.aU.qp s.aU.top).dP = true; exact r6
    have gM : s.aU.ji.c.mark = a := by
      have gL' : (s.aU.qp s.aU.top).c.L = A := by have := gL; rw [eY] at this; exact this
      rw [eY]
      show QG (s.aU.qp s.aU.top).c.L (s.aU.qp s.aU.top).c.mark s.aU.c.pt = a
      rw [gL', dD, h.pt]
      unfold QG; rw [if_neg (by omega)]
    rw [hy]
    refine ⟨fun _ => by rw [zJ _ gI, gL], fun _ => ⟨rfl, (zJ _ gI).trans gL, (ND _ gI).trans gM, (yV _ gI).trans gP⟩⟩
end
end Go.Proofs.YtgndbccogcofjaaGreatDoor
end
