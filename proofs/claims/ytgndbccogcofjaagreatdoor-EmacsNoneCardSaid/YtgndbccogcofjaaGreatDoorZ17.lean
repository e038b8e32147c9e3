import Derived.Test.YtgndbccogcofjaaGreatDoorZ2
import Derived.Test.YtgndbccogcofjaaGreatDoorZ15
import Derived.Test.YtgndbccogcofjaaGreatDoorZ16
import Derived.Test.YtgndbccogcofjaaGreatDoorZ13
import Derived.Test.YtgndbccogcofjaaGreatDoorZ11
import Derived.Test.YtgndbccogcofjaaGreatDoorZ9
set_option linter.unusedSimpArgs false
set_option linter.unusedVariables false
/- Texts of mine, joined, their names in short: EmD EdSt HistF ETyM ETyM2 EKillM EmMade FieldVal. -/
section
namespace Go.Proofs.YtgndbccogcofjaaGreatDoor
open Go.RowKit
open _root_.Go.Proofs.Tryz
def PO : ByteArray := ⟨#[113, 117, 111, 116, 101, 100, 45, 105, 110, 115, 101, 114, 116]⟩
def PS : ByteArray := ⟨#[99, 104, 97, 114, 97, 99, 116, 101, 114, 45, 115, 101, 97, 114, 99, 104]⟩
def GL : ByteArray := ⟨#[99, 104, 97, 114, 97, 99, 116, 101, 114, 45, 115, 101, 97, 114, 99, 104, 45, 98, 97, 99, 107, 119, 97, 114, 100]⟩
def BF (n : ByteArray) : Prop := n.toList = PO.toList ∨ n.toList = PS.toList ∨ n.toList = GL.toList
instance (n : ByteArray) : Decidable (BF n) := by unfold BF; infer_instance
def sH (n : ByteArray) (k : Nat) : Int := if vN ((yY n).getD .nilFunc) = true then -1 else if k = 0 ∨ (BF n ∧ k = 1) then 1 else 0
theorem uG {n : ByteArray} {k : Nat} (h : vN ((yY n).getD .nilFunc) = false) (hd : k = 0 ∨ (BF n ∧ k = 1)) : sH n k = 1 := by unfold sH; rw [if_neg (by rw [h]; decide), if_pos hd]
theorem uH {n : ByteArray} {k : Nat} (h : vN ((yY n).getD .nilFunc) = false) (hd : ¬ (k = 0 ∨ (BF n ∧ k = 1))) : sH n k = 0 := by unfold sH; rw [if_neg (by rw [h]; decide), if_neg hd]
def Sz (w0 : World) (fv : Value) (keys : List Int) (s : bD) (x : Int) (t : bD) : Prop := ∀ (F : HP) (W : World) (c e : Nat) (lv kv : Value), aB w0 W (dh c (.cells #[.pointer (some ⟨e, 0, none⟩), lv, .int .i64 s.c.pt, .int .i64 s.c.mark, .int .i64 s.count, .bool s.given, kv] 79 (0, 0)) • iE 21 .i32 lv s.c.L • dw e s • F) → iD w0 F .i32 kv keys →
  Fe prog fv [.pointer (some ⟨c, 0, none⟩)] W fun v W' => v = .int .i64 x ∧ aB w0 W' (dh c (.cells #[.pointer (some ⟨e, 0, none⟩), lv, .int .i64 s.c.pt, .int .i64 s.c.mark, .int .i64 s.count, .bool s.given, kv] 79 (0, 0)) • iE 21 .i32 lv s.c.L • dw e t • F)
section
variable {w0 w : World} {F : HP} {e k : Nat} {s t : bD} {kv : Value} {keys : List Int} {name : ByteArray} {x : Int}
theorem EK (H : aB w0 w F) (q1 : iD w0 F .i32 kv keys) : eG prog 14 #[.string name, kv] w fun v w' => v = .int .i64 (sH name keys.length) ∧ aB w0 w' F := by
 have hcv := Ug name
 refine fP func14 ntmps14 ?_
 dsimp only [aX, Nat.reduceAdd]
 refine ay (ah (aV rfl (aA (aj (ay (ay (ah (dn rfl func25 (wP H) ?_))))))))
 rintro _ w1 ⟨bM1, rfl, H1⟩
 refine aO rfl (aW (zW (H1) underlying72 underlying9 zeroValue71 rfl rfl) ?_)
 have Hd2 := H1.right
 refine aW (zZ underlying71 rfl rfl (by assumption)) ?_
 refine aA (aj (aQ rfl (fun h1 => ?_) (fun h1 => ?_)))
 ·(try simp only [aI] at h1)
  have hc := h1
  refine ay (ah (aV rfl (aA (aj (aJ (aK (aH (.inl rfl) results14 rfl ?_)))))))
  exact ⟨by unfold sH; rw [if_pos hc], Hd2⟩
 ·(try simp only [aI] at h1)
  have hc := h1
  refine aS (aj (ay (ah (aO rfl (aW (uy rfl rfl) (fV rfl (fun h2 => ?_) (fun h2 => ?_)))))))
  ·(try simp only [aI] at h2)
   refine bC (bC (fG rfl rfl (aO rfl (bC (bC (fG rfl rfl (aV rfl (aA (aj (ay (ay (ah (aO rfl (aW (nX (q1 _ (Hd2)) underlying22 rfl) (aW (gI rfl rfl) (fV rfl (fun h3 => ?_) (fun h3 => ?_)))))))))))))))))
   ·(try simp only [aI] at h3)
    refine bC (bC (kJ (kJ (kJ (bC (fG rfl rfl (aA (aj (uI (ay (ah (aV rfl (aA (aj (aJ (aK (aH (.inl rfl) results14 rfl ?_)))))))))))))))))
    exact ⟨by rw [uG hc (by first | exact .inl (by omega) | exact .inr ⟨.inl (by assumption), by omega⟩ | exact .inr ⟨.inr (.inl (by assumption)), by omega⟩ | exact .inr ⟨.inr (.inr (by assumption)), by omega⟩)], Hd2⟩
   ·(try simp only [aI] at h3)
    refine bf (aO rfl (bf (aO rfl (bf (aO rfl (bf (aW (nX (q1 _ (Hd2)) underlying22 rfl) (bf (aW (gI rfl rfl) (bf (fG rfl rfl (eY rfl rfl (aA (aj (aQ rfl (fun h4 => ?_) (fun h4 => ?_))))))))))))))))
    ·(try simp only [aI] at h4)
     have hd := h4
     refine ay (ah (aV rfl (aA (aj (aJ (aK (aH (.inl rfl) results14 rfl ?_)))))))
     exact ⟨by rw [uG hc (by first | exact .inl (by omega) | exact .inr ⟨.inl (by assumption), by omega⟩ | exact .inr ⟨.inr (.inl (by assumption)), by omega⟩ | exact .inr ⟨.inr (.inr (by assumption)), by omega⟩)], Hd2⟩
    ·(try simp only [aI] at h4)
     have hd := h4
     refine aS (aj (ay (ah (aV rfl (aA (aj (aJ (aH (.inl rfl) results14 rfl ?_))))))))
     exact ⟨by rw [uH hc (by rintro (h9 | ⟨h9 | h9 | h9, h8⟩) <;> first | omega | exact absurd h9 (by assumption))], Hd2⟩
  ·(try simp only [aI] at h2)
   refine bf (aO rfl (bf (aW (uy rfl rfl) (eY rfl rfl (fV rfl (fun h5 => ?_) (fun h5 => ?_))))))
   ·(try simp only [aI] at h5)
    refine bC (bC (fG rfl rfl (aV rfl (aA (aj (ay (ay (ah (aO rfl (aW (nX (q1 _ (Hd2)) underlying22 rfl) (aW (gI rfl rfl) (fV rfl (fun h6 => ?_) (fun h6 => ?_)))))))))))))
    ·(try simp only [aI] at h6)
     refine bC (bC (kJ (kJ (kJ (bC (fG rfl rfl (aA (aj (uI (ay (ah (aV rfl (aA (aj (aJ (aK (aH (.inl rfl) results14 rfl ?_)))))))))))))))))
     exact ⟨by rw [uG hc (by first | exact .inl (by omega) | exact .inr ⟨.inl (by assumption), by omega⟩ | exact .inr ⟨.inr (.inl (by assumption)), by omega⟩ | exact .inr ⟨.inr (.inr (by assumption)), by omega⟩)], Hd2⟩
    ·(try simp only [aI] at h6)
     refine bf (aO rfl (bf (aO rfl (bf (aO rfl (bf (aW (nX (q1 _ (Hd2)) underlying22 rfl) (bf (aW (gI rfl rfl) (bf (fG rfl rfl (eY rfl rfl (aA (aj (aQ rfl (fun h7 => ?_) (fun h7 => ?_))))))))))))))))
     ·(try simp only [aI] at h7)
      have hd := h7
      refine ay (ah (aV rfl (aA (aj (aJ (aK (aH (.inl rfl) results14 rfl ?_)))))))
      exact ⟨by rw [uG hc (by first | exact .inl (by omega) | exact .inr ⟨.inl (by assumption), by omega⟩ | exact .inr ⟨.inr (.inl (by assumption)), by omega⟩ | exact .inr ⟨.inr (.inr (by assumption)), by omega⟩)], Hd2⟩
     ·(try simp only [aI] at h7)
      have hd := h7
      refine aS (aj (ay (ah (aV rfl (aA (aj (aJ (aH (.inl rfl) results14 rfl ?_))))))))
      exact ⟨by rw [uH hc (by rintro (h9 | ⟨h9 | h9 | h9, h8⟩) <;> first | omega | exact absurd h9 (by assumption))], Hd2⟩
   ·(try simp only [aI] at h5)
    refine bf (aO rfl (bf (aW (uy rfl rfl) (eY rfl rfl (aV rfl (aA (aj (ay (ay (ah (aO rfl (aW (nX (q1 _ (Hd2)) underlying22 rfl) (aW (gI rfl rfl) (fV rfl (fun h8 => ?_) (fun h8 => ?_)))))))))))))))
    ·(try simp only [aI] at h8)
     refine bC (bC (kJ (kJ (kJ (bC (fG rfl rfl (aA (aj (uI (ay (ah (aV rfl (aA (aj (aJ (aK (aH (.inl rfl) results14 rfl ?_)))))))))))))))))
     exact ⟨by rw [uG hc (by first | exact .inl (by omega) | exact .inr ⟨.inl (by assumption), by omega⟩ | exact .inr ⟨.inr (.inl (by assumption)), by omega⟩ | exact .inr ⟨.inr (.inr (by assumption)), by omega⟩)], Hd2⟩
    ·(try simp only [aI] at h8)
     refine bf (aO rfl (bf (fV rfl (fun h9 => ?_) (fun h9 => ?_))))
     ·(try simp only [aI] at h9)
      refine bf (aO rfl (bf (aW (nX (q1 _ (Hd2)) underlying22 rfl) (bf (aW (gI rfl rfl) (bf (fG rfl rfl (eY rfl rfl (aA (aj (aQ rfl (fun h10 => ?_) (fun h10 => ?_))))))))))))
      ·(try simp only [aI] at h10)
       have hd := h10
       refine ay (ah (aV rfl (aA (aj (aJ (aK (aH (.inl rfl) results14 rfl ?_)))))))
       exact ⟨by rw [uG hc (by first | exact .inl (by omega) | exact .inr ⟨.inl (by assumption), by omega⟩ | exact .inr ⟨.inr (.inl (by assumption)), by omega⟩ | exact .inr ⟨.inr (.inr (by assumption)), by omega⟩)], Hd2⟩
      ·(try simp only [aI] at h10)
       have hd := h10
       refine aS (aj (ay (ah (aV rfl (aA (aj (aJ (aH (.inl rfl) results14 rfl ?_))))))))
       exact ⟨by rw [uH hc (by rintro (h9 | ⟨h9 | h9 | h9, h8⟩) <;> first | omega | exact absurd h9 (by assumption))], Hd2⟩
     ·(try simp only [aI] at h9)
      refine bC (bC (bC (bf (eY rfl rfl (eY rfl rfl (aA (aj (nV (aS (aj (ay (ah (aV rfl (aA (aj (aJ (aH (.inl rfl) results14 rfl ?_)))))))))))))))))
      exact ⟨by rw [uH hc (by rintro (h9 | ⟨h9 | h9 | h9, h8⟩) <;> first | omega | exact absurd h9 (by assumption))], Hd2⟩
theorem DI {fv : Value} (H : aB w0 w (dw e s • F)) (hi : s.inn = false) (q1 : iD w0 F .i32 kv keys) (hn : yY name = some fv) (hw : sH name keys.length = 0) (hf : Sz w0 fv keys s.bT x t) :
  eG prog 11 #[.pointer (some ⟨e, 0, none⟩), .string name, kv] w fun v w' => v = .int .i64 (t.tX x) ∧ aB w0 w' (dw e (t.ji x) • F) := by
 have hcv := Ug name
 have hnn : vN ((yY name).getD .nilFunc) = false := by obtain ⟨k, -, rfl⟩ := Dj hn; rw [hn]; rfl
 refine fP func11 ntmps11 ?_
 dsimp only [aX, Nat.reduceAdd]
 refine ay (ah (aV rfl (aA (aj (ay (ay (ah (aO rfl (dn rfl func24 (CJ H (by assumption)) ?_)))))))))
 rintro _ w1 ⟨cl1, rfl, H1⟩
 refine aW (fO underlying26 rfl rfl) (aA (aj (aQ rfl (fun h => by exfalso; (try simp only [aI] at h); simp at h) (fun h1 => ?_))))
 (try simp only [aI] at h1)
 refine aS (aj (ay (ah (dn rfl func25 (wP H1) ?_))))
 rintro _ w2 ⟨bM2, rfl, H2⟩
 refine aO rfl (aW (zW (H2) underlying72 underlying9 zeroValue71 rfl rfl) ?_)
 have Vy := H2.right
 refine aV rfl (aA (aj (ay (ay (ah (aO rfl ?_))))))
 refine aW (zZ underlying71 rfl rfl (by assumption)) ?_
 refine aA (aj (aQ rfl (fun h => by exfalso; (try simp only [aI] at h); rw [hnn] at h; simp at h) (fun h2 => ?_)))
 (try simp only [aI] at h2)
 refine aS (aj (ay (ay (ah (aO rfl (aO rfl (dn rfl func14 (EK Vy (fun W HW => q1 _ (HW.right))) ?_)))))))
 rintro _ w4 ⟨rfl, H4⟩
 refine aW (dU rfl rfl) (aA (aj (aQ rfl (fun h => by exfalso; (try simp only [aI] at h); exact h hw) (fun h3 => ?_))))
 (try simp only [aI] at h3)
 refine aS (aj (ay (ay (ah (aO rfl (dn rfl func26 (xw H4) ?_))))))
 rintro _ w5 ⟨rfl, H5⟩
 refine aV rfl (aA (aj (ay (ah (aO rfl (aW (dU rfl rfl) (aA (aj (aQ rfl (fun h => by exfalso; (try simp only [aI] at h); exact h (by unfold bD.yc; rw [if_neg (by simp [hi])])) (fun h4 => ?_))))))))))
 (try simp only [aI] at h4)
 refine aS (aj (ay (ah (aO rfl (dn rfl func21 (qg H5) ?_)))))
 rintro _ w6 ⟨u6, rfl, H6⟩
 refine jo (fJ (l := [_, _, _]) H6 zeroValue53 rfl) ?_
 rintro _ w7 ⟨b7, rfl, H7⟩
 refine aG (cO 0 (l' := [_, _, _]) (us := [_, _, _]) H7 sizeOf53 rfl rfl rfl (aC (by first | rfl | exact Rd.one ((H7.f2).aT)) (aC (by first | rfl | assumption) (aC (by first | rfl | assumption) bP))) rfl rfl) ?_
 rintro _ w8 H8
 refine aA (aj (ay ?_))
 have QH := H8.drew
 have mY := aB.kp (QH.f3.right.f2.f2)
 refine xJ [4, 6, 8] mY rfl (iq 0 rfl mY rfl (iq 1 rfl mY rfl (iq 2 rfl mY rfl (fU 3 rfl mY 0 underlying53 rfl sizeOf22 rfl (iV 4 rfl mY (fun W hW => jr underlying22 rfl ((Kp.h hW)).get.2 rfl) (fU 5 rfl mY 1 underlying53 rfl sizeOf3 rfl (iV 6 rfl mY (fun W hW => jr underlying3 rfl ((Kp.h hW)).get.2 rfl) (fU 7 rfl mY 2 underlying53 rfl sizeOf3 rfl (iV 8 rfl mY (fun W hW => jr underlying3 rfl ((Kp.h hW)).get.2 rfl) (iq 9 rfl mY rfl (iq 11 rfl mY rfl (iq 13 rfl mY rfl (jB 10 rfl (vK rfl func28 (EC QH.f3)) ?_)))))))))))))
 rintro _ w9 ⟨rfl, H9⟩
 have Ii := aB.kp (H9.right.f2.f2)
 refine dM Ii (fun W hW => (Kp.h hW).f2.f2) ?_
 refine jB 12 rfl (vK rfl func29 (ED H9)) ?_
 rintro _ w10 ⟨rfl, ng⟩
 have Dt := aB.kp (ng.f3.f3.f3)
 refine dM Dt (fun W hW => (Kp.h hW).right.f2.f2) ?_
 refine iU 14 rfl Dt (fun _ => fE (zl := [.pointer none, .slice none 0 0, .int .i64 0, .int .i64 0, .int .i64 0, .bool false, .slice none 0 0]) (pl := [(0, 1), (1, 1), (2, 1), (3, 1), (4, 1), (5, 1), (6, 1)]) [_, _, _, _, _, _, _] underlying79 zeroValue79 rfl (fun w => by kernel_rfl) rfl (.one (by first | rfl | assumption) (.one (Rd.one ((ng.f3).aT)) (.one (by first | rfl | assumption) (.one (by first | rfl | assumption) (.one (by first | rfl | assumption) (.one (by first | rfl | assumption) (.one (Rd.one (q1 _ (ng.right.right.right))) .nil))))))) rfl) ?_
 refine jB 15 rfl (gV (l := [_, _, _, _, _, _, _]) ng rfl rfl) ?_
 rintro _ Ht ⟨b11, rfl, wB⟩
 have Dq := aB.kp (wB.f4.f4.f4.f4)
 refine eX Dq (by kernel_rfl) ?_
 refine jB 16 rfl (qI rfl rfl ((by rw [hn]; exact hf _ _ _ _ _ _ wB.f3.right.f2.f3.f3 q1))) ?_
 rintro _ w12 ⟨rfl, vM⟩
 have wY := aB.kp (vM.f3.f3.f3)
 refine eX wY (by kernel_rfl) ?_
 refine jB 17 rfl (vK rfl func27 (BD vM.f3)) ?_
 rintro _ Me ⟨rfl, uX⟩
 have uY := aB.kp (uX.f3.f3.f3)
 refine eX uY (by kernel_rfl) ?_
 refine iU 18 rfl uY (fun _ => fZ rfl) (oV (aj (aJ (aH (.inl rfl) results11 rfl ?_))))
 exact ⟨rfl, uX.f2.right.f2.right⟩
end
end Go.Proofs.YtgndbccogcofjaaGreatDoor
end
section
namespace Go.Proofs.YtgndbccogcofjaaGreatDoor
open Go.RowKit
open _root_.Go.Proofs.Tryz
def bD.qF (s : bD) (l : List Int) : Int := if s.inn then 1 else if 1024 < l.length then 3 else 0
def bD.I5 (s : bD) (hl : List nS) (base most : Int) (l : List Int) : bD := if s.qF l = 0 then s.start hl base most l else s
theorem NY {s : bD} (h : jq s) (hi : s.inn = false) (hl : List nS) (base most : Int) (l : List Int) : jq (s.start hl base most l) := by
  obtain ⟨h1, h2, h3, h4, h5, h6⟩ := h
  refine ⟨Gn _ _ _ _ _, fun h => absurd (show s.inn = true from h) (by rw [hi]; decide), ⟨by show (-1 : Int) ≤ -1; decide, by show (-1 : Int) ≤ 1000000; decide⟩, h4, ?_, by simp [bD.start, jU.fresh]⟩
  show dO [] s.put ≤ 16384
  unfold dO at *; simp at *; omega
section
variable {w0 w : World} {F : HP} {e p h pr : Nat} {s : bD} {hl : List nS} {base most m : Int} {v : Value} {l : List Int}
theorem EL (H : aB w0 w (dw e s • dY h hl base most • F)) (hr : iD w0 F .i32 v l) : eG prog 41 #[.pointer (some ⟨e, 0, none⟩), .pointer (some ⟨h, 0, none⟩), v] w fun v' w' =>
  v' = .int .i64 (s.qF l) ∧ aB w0 w' (dw e (s.I5 hl base most l) • dY h hl base most • F) := by
 unfold bD.I5
 refine fP func41 ntmps41 ?_
 dsimp only [aX, Nat.reduceAdd]
 refine ay (ah (aV rfl (aA (aj (ay (bg (ay (ah (aO rfl (dn rfl func32 (jJ H) ?_))))))))))
 rintro _ _ ⟨rfl, rfl⟩
 refine aO rfl (bf (aO rfl (bf (dn rfl func45 (lI H.f2) ?_))))
 rintro _ w2 ⟨q2, rfl, H2⟩
 refine bf (aW (fO underlying33 rfl rfl) (eY rfl rfl (aV rfl (aA (aj (aQ rfl (fun h => by exfalso; (try simp only [aI] at h); simp at h) (fun h1 => ?_)))))))
 (try simp only [aI] at h1)
 refine ay ?_
 have Vy := H2.right
 obtain ⟨oW, oZ, pq, pz, pF, pG, pI, pJ, nO, lQ, lS, lT, lU, lV, lW, lX, lY, lZ, mg, mD, dD, bF, fK, dG⟩ := (Vy.f2).zy
 refine ah (aO rfl (bK rfl (aZ 16 underlying37 rfl sizeOf4 rfl (dP underlying4 rfl (dG).get.2 rfl (aV rfl (aA (aj (aQ rfl (fun h2 => ?_) (fun h2 => ?_)))))))))
 ·(try simp only [aI] at h2)
  have hin := h2
  have hE : s.qF l = 1 := by unfold bD.qF; rw [if_pos hin]
  refine ay (ah (aV rfl (aA (aj (aJ (aU (aK (aH (.inl rfl) results41 rfl ?_))))))))
  have RN := dG.f11.f11.f11.f11.f11.f11.f11.f11.f11.f11.f11
  have RP := aB.dF (s := s) dD bF RN
  exact ⟨by rw [hE], by rw [if_neg (by rw [hE]; decide)]; exact RP.f2.f2⟩
 ·(try simp only [aI] at h2)
  have hin : s.inn = false := by simpa using h2
  refine ay (ah (aO rfl (aW (nX (hr _ (dG.right.right.right.right.right.right.right.right.right.right.right.right)) underlying22 rfl) (aW (dB rfl rfl) (aV rfl (aA (aj (aQ rfl (fun h3 => ?_) (fun h3 => ?_)))))))))
  ·(try simp only [aI] at h3)
   have hbig := h3
   have hE : s.qF l = 3 := by unfold bD.qF; rw [if_neg (by simp [hin]), if_pos (by omega)]
   refine ay (ah (aV rfl (aA (aj (aJ (aU (aK (aH (.inl rfl) results41 rfl ?_))))))))
   have Ho9 := dG.f11.f11.f11.f11.f11.f11.f11.f11.f11.f11.f11
   have YJ := aB.dF (s := s) dD bF Ho9
   exact ⟨by rw [hE], by rw [if_neg (by rw [hE]; decide)]; exact YJ.f2.f2⟩
  ·(try simp only [aI] at h3)
   have hE : s.qF l = 0 := by unfold bD.qF; rw [if_neg (by simp [hin]), if_neg (by have h9 := h3; omega)]
   have hsh : l.length ≤ 1024 := by have h9 := h3; omega
   refine aS (aP (aj (ay (ah (aO rfl (aO rfl (aO rfl (dn rfl func110 (vG (E := s.c.E) (a := s.c.at_) dG.f2.right.f3.right.f3.right.f3.right.f3.right.f6.f6.f6.f6.f6.f7.f7 (fun W HW => hr W HW.right.right.right.right.right) hsh) ?_))))))))
   rintro _ Ht ⟨qb, qw, qt, qm, qh, wB⟩
   refine aA (aj (ay (ah (aV rfl (aA (aj (aJ (aH (.inl rfl) results41 rfl ?_))))))))
   exact ⟨by rw [hE], by rw [if_pos hE]; exact aB.dF (s := s.start hl base most l) (NY dD hin _ _ _ _) bF wB.f7.f12.f12.f12.f12.f11.f11.f11.f11.f12.f12.f12⟩
end
end Go.Proofs.YtgndbccogcofjaaGreatDoor
end
section
namespace Go.Proofs.YtgndbccogcofjaaGreatDoor
open Go.RowKit
open _root_.Go.Proofs.Tryz
def uP (l : List nS) : Int := if l.any (fun x => decide (16384 < x.1.size)) then 3 else if l.any (fun x => decide (x.2 < 0)) then 1 else 0
theorem NZ {l : List nS} {k : Nat} (hk : k < l.length) : l.getD k default ∈ l := by rw [List.getD_eq_getElem?_getD, List.getElem?_eq_getElem hk]; exact List.getElem_mem hk
theorem N7 {l : List nS} {p : nS → Prop} (h : ∀ k, k < l.length → p (l.getD k default)) : ∀ x ∈ l, p x := by
  intro x hx
  obtain ⟨k, hk, rfl⟩ := List.getElem_of_mem hx
  have := h k hk
  rwa [List.getD_eq_getElem?_getD, List.getElem?_eq_getElem hk] at this
theorem Lh {l : List nS} {k : Nat} (hk : k < l.length) (h : (16384 : Int) < (l.getD k default).1.size) : uP l = 3 := by
  unfold uP
  rw [if_pos (List.any_eq_true.2 ⟨_, NZ hk, decide_eq_true (by omega)⟩)]
theorem BG {l : List nS} (h1 : ∀ k, k < l.length → ¬ (16384 : Int) < (l.getD k default).1.size) : uP l = if l.any (fun x => decide (x.2 < 0)) then 1 else 0 := by
  unfold uP
  rw [if_neg]
  intro c
  obtain ⟨x, hx, hd⟩ := List.any_eq_true.1 c
  have := N7 (p := fun x => ¬ (16384 : Int) < x.1.size) h1 x hx
  simp at hd; omega
theorem N8 {l : List nS} (h1 : ∀ k, k < l.length → ¬ (16384 : Int) < (l.getD k default).1.size) {k : Nat} (hk : k < l.length) (h : (l.getD k default).2 < 0) : uP l = 1 := by
  rw [BG h1, if_pos (List.any_eq_true.2 ⟨_, NZ hk, by simpa using h⟩)]
theorem PU {l : List nS} (h1 : ∀ k, k < l.length → ¬ (16384 : Int) < (l.getD k default).1.size) (h2 : ∀ k, k < l.length → ¬ (l.getD k default).2 < 0) : uP l = 0 := by
  rw [BG h1, if_neg]
  intro c
  obtain ⟨x, hx, hd⟩ := List.any_eq_true.1 c
  exact N7 (p := fun x => ¬ x.2 < 0) h2 x hx (by simpa using hd)
theorem N9 {l : List nS} (h : uP l = 0) : ∀ x ∈ l, UK x := by
  intro x hx
  unfold uP at h
  split at h
  · simp at h
  · rename_i h1
    split at h
    · simp at h
    · rename_i h2
      simp only [List.any_eq_true, not_exists, not_and, decide_eq_true_eq] at h1 h2
      exact ⟨by have := h1 x hx; omega, by have := h2 x hx; omega⟩
theorem JY (l : List nS) (n : Nat) : (l.flatMap kS).drop (n * 2) = (l.drop n).flatMap kS := by
  induction l generalizing n with
  | nil => simp
  | cons x l ih =>
    cases n with
    | zero => simp
    | succ n => rw [show (n + 1) * 2 = n * 2 + 2 from by omega, List.flatMap_cons, List.drop_succ_cons, ← ih n]; simp [kS, List.drop_append]
theorem PV (l : List nS) : (l.flatMap kS).length = l.length * 2 := by induction l with
  | nil => rfl
  | cons x l ih => rw [List.flatMap_cons, List.length_append, ih, xZ, List.length_cons]; omega
theorem PW {W : World} {v : Value} {l : List nS} {n : Nat} (h : Rd W 2 v l.length (l.flatMap kS)) (hn : n ≤ l.length) : Rd W 2 (kZ 2 n l.length v) (l.drop n).length ((l.drop n).flatMap kS) := by
  have h1 := h.cut hn (Nat.le_refl _)
  rw [List.take_of_length_le (by rw [JY, PV]; simp), JY] at h1
  rwa [List.length_drop]
section
variable {P : Program} {L : List (Nat × Value)} {w0 w : World} {F : HP} {p : Nat} {hl l : List nS} {base most : Int} {v : Value}
theorem EM (H : aB w0 w F) (hv : Kt w0 F 2 v l.length (l.flatMap kS)) (hb : l.length ≤ 35184372087808) : eG prog 182 #[v] w fun v' w' => v' = .int .i64 (uP l) ∧ aB w0 w' F := by
 refine fP func182 ntmps182 ?_
 dsimp only [aX, Nat.reduceAdd]
 refine ay (ah (aV rfl (aA (aj (ay (ay (ah (aO rfl (aW (gW (hv _ (H)) underlying47 rfl) (aO rfl (aA (aj (bg ?_)))))))))))))
 refine ig [(0, _), (7, _), (8, _)] (fun (k : Nat) => [(9, .int .i64 (k : Int))]) (fun (k : Nat) W => (k ≤ l.length ∧ ∀ i, i < k → ¬ (16384 : Int) < (l.getD i default).1.size) ∧ aB w0 W F) (fun (k : Nat) => l.length - k) (0) (Sub.cons rfl (Sub.cons rfl (Sub.cons rfl (Sub.nil _)))) (Sub.cons rfl (Sub.nil _)) ⟨⟨by omega, fun i hi => absurd hi (by omega)⟩, H⟩ ?_
 rintro k w1 ⟨⟨hk, hsh⟩, HL⟩
 dsimp only [List.cons_append, List.nil_append]
 refine ay (ah (aW (eU rfl rfl) (aA (aj (ay (aQ rfl (fun h1 => ?_) (fun h1 => ?_)))))))
 ·(try simp only [aI] at h1)
  refine aS (aj (ay (bg (ay ?_))))
  have hkl : k < l.length := by omega
  refine ah ?_
  obtain ⟨bv, ov, cv, ev⟩ := Rd.yX (hv _ (HL)) (by omega)
  cases ev
  refine aW (iK underlying47 sizeOf128 rfl rfl (by omega)) (aW (jG (ys := [_, _]) (hv _ (HL)) (by omega) underlying128 rfl sizeOf128 rfl (mQ xZ (by omega) default) rfl) (jo (fJ (l := [_, _]) HL zeroValue128 rfl) ?_))
  rintro _ w2 ⟨b2, rfl, H2⟩
  refine aG (cO 0 (l' := [_, _]) (us := [_, _]) H2 sizeOf128 rfl rfl rfl (aC (by first | rfl | assumption) (aC (by first | rfl | assumption) bP)) rfl rfl) ?_
  rintro _ w3 H3
  refine aA (aj (ay (ah (aZ 0 underlying128 rfl sizeOf9 rfl (dP underlying9 rfl (H3).get.2 rfl (aW (Kq underlying9 rfl) (aW (dB rfl rfl) (aA (aj (aQ rfl (fun h2 => ?_) (fun h2 => ?_)))))))))))
  ·(try simp only [aI] at h2)
   have hkb := h2
   refine ay (ah (aV rfl (aA (aj (aJ (aU (aK (aK (aU (aK (aH (.inl rfl) results182 rfl ?_)))))))))))
   exact ⟨by rw [Lh hkl hkb], H3.right⟩
  ·(try simp only [aI] at h2)
   have hks : ¬ (16384 : Int) < (l.getD k default).1.size := by have h9 := h2; omega
   refine aS (aP (aj (ah (aW (fQ rfl rfl (by omega)) (aO rfl (aA ?_))))))
   refine fA (k + 1) ?_ ?_ ?_ ?_
   ·exact (Sub.cons rfl (Sub.nil _))
   ·exact (Sub.cons rfl (Sub.cons rfl (Sub.cons rfl (Sub.nil _))))
   ·(try dsimp only)
    first | done | exact ⟨⟨by omega, fun i hi => (show i < k ∨ i = k from by omega).elim (hsh i) (fun c => c ▸ hks)⟩, H3.right⟩
   ·(try dsimp only); omega
 ·(try simp only [aI] at h1)
  refine fH (aY (aY (bV (aj (ay (ay ?_))))))
  obtain rfl : k = l.length := by omega
  refine ah (aO rfl (aW (gW (hv _ (HL)) underlying47 rfl) (aO rfl (aA (aj (bg ?_))))))
  refine ig [(18, _), (19, _)] (fun (k2 : Nat) => [(20, .int .i64 (k2 : Int))]) (fun (k2 : Nat) W => (k2 ≤ l.length ∧ ∀ i, i < k2 → ¬ (l.getD i default).2 < 0) ∧ aB w0 W F) (fun (k2 : Nat) => l.length - k2) (0) (Sub.cons rfl (Sub.cons rfl (Sub.nil _))) (Sub.cons rfl (Sub.nil _)) ⟨⟨by omega, fun i hi => absurd hi (by omega)⟩, HL⟩ ?_
  rintro k2 w4 ⟨⟨hk2, hpo⟩, HL2⟩
  dsimp only [List.cons_append, List.nil_append]
  refine ay (ah (aW (eU rfl rfl) (aA (aj (ay (aQ rfl (fun h3 => ?_) (fun h3 => ?_)))))))
  ·(try simp only [aI] at h3)
   refine aS (aj (ay (bg (ay ?_))))
   have hkl2 : k2 < l.length := by omega
   refine ah ?_
   obtain ⟨bv, ov, cv, ev⟩ := Rd.yX (hv _ (HL2)) (by omega)
   cases ev
   refine aW (iK underlying47 sizeOf128 rfl rfl (by omega)) (aW (jG (ys := [_, _]) (hv _ (HL2)) (by omega) underlying128 rfl sizeOf128 rfl (mQ xZ (by omega) default) rfl) (jo (fJ (l := [_, _]) HL2 zeroValue128 rfl) ?_))
   rintro _ w5 ⟨b5, rfl, H5⟩
   refine aG (cO 0 (l' := [_, _]) (us := [_, _]) H5 sizeOf128 rfl rfl rfl (aC (by first | rfl | assumption) (aC (by first | rfl | assumption) bP)) rfl rfl) ?_
   rintro _ w6 H6
   refine aA (aj (ay (ah (aZ 1 underlying128 rfl sizeOf2 rfl (dP underlying2 rfl (H6).get.2 rfl (aW (eU rfl rfl) (aA (aj (aQ rfl (fun h4 => ?_) (fun h4 => ?_))))))))))
   ·(try simp only [aI] at h4)
    have hkn := h4
    refine ay (ah (aV rfl (aA (aj (aJ (aU (aK (aK (aU (aK (aH (.inl rfl) results182 rfl ?_)))))))))))
    exact ⟨by rw [N8 hsh hkl2 hkn], H6.right⟩
   ·(try simp only [aI] at h4)
    have hkp : ¬ (l.getD k2 default).2 < 0 := by have h9 := h4; omega
    refine aS (aP (aj (ah (aW (fQ rfl rfl (by omega)) (aO rfl (aA ?_))))))
    refine fA (k2 + 1) ?_ ?_ ?_ ?_
    ·exact (Sub.cons rfl (Sub.nil _))
    ·exact (Sub.cons rfl (Sub.cons rfl (Sub.nil _)))
    ·(try dsimp only)
     first | done | exact ⟨⟨by omega, fun i hi => (show i < k2 ∨ i = k2 from by omega).elim (hpo i) (fun c => c ▸ hkp)⟩, H6.right⟩
    ·(try dsimp only); omega
  ·(try simp only [aI] at h3)
   refine fH (aY (aY (bV (aj (ay ?_)))))
   obtain rfl : k2 = l.length := by omega
   refine ah (aV rfl (aA (aj (aJ (aH (.inl rfl) results182 rfl ?_)))))
   exact ⟨by rw [PU hsh hpo], HL2⟩
def mJ (hl : List nS) (most : Int) : Nat := hl.length - most.toNat
theorem yw (H : aB w0 w (dh p (.cells #[v, .int .i64 base, .int .i64 most] 132 (0, 0)) • Row 128 2 v hl.length (hl.flatMap kS) • F)) (hm : 0 ≤ most ∧ most ≤ 4096) (hb : 1 ≤ base ∧ base ≤ 2305843009213693952) (hn : hl.length ≤ 70368744177664) :
  eG prog 183 #[.pointer (some ⟨p, 0, none⟩)] w fun _ w' => ∃ v', aB w0 w' (dh p (.cells #[v', .int .i64 (base + mJ hl most), .int .i64 most] 132 (0, 0)) • Row 128 2 v' (hl.drop (mJ hl most)).length ((hl.drop (mJ hl most)).flatMap kS) • F) := by
 refine fP func183 ntmps183 ?_
 dsimp only [aX, Nat.reduceAdd]
 refine ay ?_
 have Lj := H.drew
 have qj := aB.kp (Lj.f2.f2)
 refine xJ [4, 10] qj rfl (iq 0 rfl qj rfl (jv 1 rfl qj rfl (fU 2 rfl qj 0 underlying132 rfl sizeOf130 rfl (fU 3 rfl qj 0 underlying130 rfl sizeOf47 rfl (iV 4 rfl qj (fun W hW => jr underlying47 rfl ((Kp.h hW)).get.2 rfl) (iU 5 rfl qj (fun _ => gW ((Lj.f2).aT) underlying47 rfl) (iq 6 rfl qj rfl (jv 7 rfl qj rfl (fU 8 rfl qj 0 underlying132 rfl sizeOf130 rfl (fU 9 rfl qj 2 underlying130 rfl sizeOf3 rfl (iV 10 rfl qj (fun W hW => jr underlying3 rfl ((Kp.h hW)).get.2 rfl) (iU 11 rfl qj (fun _ => gU rfl rfl (by omega)) (iU 12 rfl qj (fun _ => fZ rfl) (oV (aj (ay (ah (aO rfl (aW (dB rfl rfl) (aA (aj (aQ rfl (fun h1 => ?_) (fun h1 => ?_)))))))))))))))))))))))
 ·(try simp only [aI] at h1)
  have hk : (mJ hl most : Int) = (hl.length : Int) - most := by have h9 := h1; unfold mJ; omega
  refine ay (ah (aO rfl (aO rfl (bK rfl (aZ 0 underlying132 rfl sizeOf130 rfl (aZ 0 underlying130 rfl sizeOf47 rfl (dP underlying47 rfl (Lj).get.2 rfl (aO rfl (aW (zS ((Lj.f2).aT) underlying47 sizeOf128 rfl rfl rfl (by omega)) (dn rfl func118 (xg (hl := hl.drop (mJ hl most)) Lj (fun W HW => by rw [show ((hl.length : Int) - most).toNat = mJ hl most from by omega, show ((hl.length : Nat) : Int).toNat = hl.length from by omega]; exact PW HW.f2.aT (by unfold mJ; omega)) (by rw [List.length_drop]; unfold mJ; omega)) ?_))))))))))
  rintro u1 w1 H1
  refine bK rfl (aZ 0 underlying132 rfl sizeOf130 rfl (aZ 0 underlying130 rfl sizeOf47 rfl (aG (aN 0 (l' := [_, _, _]) H1.f2 sizeOf47 rfl rfl (by first | rfl | exact Rd.one ((H1).aT)) rfl rfl) ?_)))
  rintro _ w2 H2
  refine aA (aj (ah (aO rfl (bK rfl (aZ 0 underlying132 rfl sizeOf130 rfl (aZ 1 underlying130 rfl sizeOf2 rfl (dP underlying2 rfl (H2).get.2 rfl (aO rfl (aW (fQ rfl rfl (by omega)) (bK rfl (aZ 0 underlying132 rfl sizeOf130 rfl (aZ 1 underlying130 rfl sizeOf2 rfl (aG (aN 1 (l' := [_, _, _]) H2 sizeOf2 rfl rfl (by first | rfl | assumption) rfl rfl) ?_)))))))))))))
  rintro _ w3 H3
  refine aA (fF (.inr rfl) results183 ?_)
  exact ⟨_, by rw [hk]; exact H3.f3.right.f2.f2⟩
 ·(try simp only [aI] at h1)
  have hk : mJ hl most = 0 := by have h9 := h1; unfold mJ; omega
  refine aS (fF (.inr rfl) results183 ?_)
  exact ⟨_, by rw [hk]; simpa using Lj⟩
theorem Vz {hl l : List nS} {base most : Int} (h : UL hl base most) (hb : hl.length + l.length ≤ 5864062014805) (hm : uP l = 0) (hbase : base ≤ 1152921504606846976) : UL ((hl ++ l).drop (mJ (hl ++ l) most)) (base + mJ (hl ++ l) most) most := by
  obtain ⟨h1, h2, h3, h4, h5, h6⟩ := h
  have hl1 : (hl ++ l).length = hl.length + l.length := List.length_append
  refine ⟨?_, ?_, ?_, ?_, h5, fun x hx => ?_⟩
  · rw [List.length_drop]; unfold mJ; omega
  · omega
  · unfold mJ; omega
  · rw [List.length_drop]; unfold mJ; omega
  · rcases List.mem_append.1 (List.mem_of_mem_drop hx) with c | c
    · exact h6 x c
    · exact N9 hm x c
def Oa (hl : List nS) (most : Int) (l : List nS) : List nS := if uP l = 0 then (hl ++ l).drop (mJ (hl ++ l) most) else hl
def Ob (hl : List nS) (base most : Int) (l : List nS) : Int := if uP l = 0 then base + mJ (hl ++ l) most else base
theorem EN (H : aB w0 w (dY p hl base most • F)) (hv : Kt w0 F 2 v l.length (l.flatMap kS)) (hb : hl.length + l.length ≤ 5864062014805) (hbase : base ≤ 1152921504606846976) :
  eG prog 108 #[.pointer (some ⟨p, 0, none⟩), v] w fun v' w' => v' = .int .i64 (uP l) ∧ aB w0 w' (dY p (Oa hl most l) (Ob hl base most l) most • F) := by
 refine fP func108 ntmps108 ?_
 dsimp only [aX, Nat.reduceAdd]
 refine ay (ah (aV rfl (aA (aj (ay (ay (ah (aO rfl (dn rfl func117 (qB H) ?_)))))))))
 rintro _ _ ⟨rfl, rfl⟩
 refine aA (aj (nV (aS (aj (ay (ay (ah (aO rfl (dn rfl func182 (EM H (fun W HW => hv _ (HW.right)) (by omega)) ?_)))))))))
 rintro _ w2 ⟨rfl, H2⟩
 refine aV rfl (aA (aj (ay (ah (aO rfl (aW (dU rfl rfl) (aA (aj (aQ rfl (fun h1 => ?_) (fun h1 => ?_))))))))))
 ·(try simp only [aI] at h1)
  have hm := h1
  refine ay (ah (aO rfl (aV rfl (aA (aj (aJ (aK (aH (.inl rfl) results108 rfl ?_))))))))
  exact ⟨rfl, by unfold Oa Ob; rw [if_neg hm, if_neg hm]; exact H2⟩
 ·(try simp only [aI] at h1)
  have hm : uP l = 0 := h1
  refine aS (aj (ay ?_))
  obtain ⟨RJ, vT, A8⟩ := (H2).hist
  have hkl := vT.1
  have hon := @JE l
  refine ah (aO rfl (aO rfl (bK rfl (aZ 0 underlying132 rfl sizeOf130 rfl (aZ 0 underlying130 rfl sizeOf47 rfl (dP underlying47 rfl (A8).get.2 rfl (aO rfl (jo (gK A8.f2 underlying47 (show (prog.info? 128).map (fun i => (i.zero, i.size, i.bytes)) = some (some (.agg #[.string .empty, .int .i64 0]), 2, 24) by kernel_rfl) rfl rfl rfl (hv _ (A8.right.right)) (by assumption) (by omega) (by omega)) ?_))))))))
  rintro l4 w4 H4
  refine bK rfl (aZ 0 underlying132 rfl sizeOf130 rfl (aZ 0 underlying130 rfl sizeOf47 rfl (aG (aN 0 (l' := [_, _, _]) H4.f2 sizeOf47 rfl rfl (by first | rfl | exact Rd.one ((H4).aT)) rfl rfl) ?_)))
  rintro _ w5 H5
  refine aA (aj (ay (ah (aO rfl (dn rfl func183 (yw (hl := hl ++ l) (by rw [List.flatMap_append, List.length_append]; exact H5.f2.f2) ⟨by have := vT.2.2.2.1; omega, vT.2.2.2.2.1⟩ ⟨vT.2.1, by omega⟩ (by have := vT.1; rw [List.length_append]; omega)) ?_)))))
  rintro _ w6 ⟨v2, H6⟩
  refine aA (aj (ay (ah (aV rfl (aA (aj (aJ (aH (.inl rfl) results108 rfl ?_))))))))
  exact ⟨by rw [hm], by unfold Oa Ob; rw [if_pos hm, if_pos hm]; exact aB.su (Vz vT hb hm hbase) H6⟩
theorem BH {n : Int} (H : aB w0 w F) (hn : 0 ≤ n ∧ n ≤ 4096) (hv : Kt w0 F 2 v l.length (l.flatMap kS)) (hb : l.length ≤ 5864062014805) (hm : uP l = 0) : eG prog 39 #[.int .i64 n, v] w fun v' w' =>
  ∃ p, v' = .tuple #[.pointer (some ⟨p, 0, none⟩), .int .i64 0] ∧ aB w0 w' (dY p (Oa [] n l) (Ob [] 1 n l) n • F) := by
 refine fP func39 ntmps39 ?_
 dsimp only [aX, Nat.reduceAdd]
 refine ay (ah (aV rfl (aV rfl (aA (aj (ay (ah (aO rfl (dn rfl func107 (Eu H (by omega)) ?_)))))))))
 rintro _ w1 ⟨p1, rfl, H1⟩
 refine aO rfl (CW rfl rfl (CW rfl rfl (aV rfl (aV rfl (aA (aj (ay (ay (ah (aO rfl (aW (dU rfl rfl) (aA (aj (aQ rfl (fun h => by exfalso; (try simp only [aI] at h); simp at h) (fun h1 => ?_)))))))))))))))
 (try simp only [aI] at h1)
 refine aS (aj (ay (ay (ah (aO rfl (aO rfl (dn rfl func108 (EN H1 hv (by simp; omega) (by decide)) ?_)))))))
 rintro _ w2 ⟨rfl, H2⟩
 refine aV rfl (aA (aj (ay (ah (aO rfl (aW (dU rfl rfl) (aA (aj (aQ rfl (fun h => by exfalso; (try simp only [aI] at h); exact h hm) (fun h2 => ?_))))))))))
 (try simp only [aI] at h2)
 refine aS (aj (ay (ah (aO rfl (aV rfl (aV rfl (aA (aj (aJ (kF (.inl rfl) results39 rfl rfl ?_))))))))))
 exact ⟨_, rfl, H2⟩
end
def JZ (l : List nS) : List nS := Oa [] 4096 l
def J3 (l : List nS) : Int := Ob [] 1 4096 l
end Go.Proofs.YtgndbccogcofjaaGreatDoor
end
section
namespace Go.Proofs.YtgndbccogcofjaaGreatDoor
open Go.RowKit
structure Out (s : bD) (L : List Int) (pt : Int) (G : List (List dQ)) (run : Bool) : Prop where
  inn : s.inn = false
  L : s.c.L = L
  pt : s.c.pt = pt
  G : s.c.un s.c.place = G
  run : s.c.run = run
  over : s.c.over = false
structure QI (s : bD) (L : List Int) (pt : Int) (G : List (List dQ)) (run : Bool) : Prop where
  inn : s.inn = true
  L : s.c.L = L
  pt : s.c.pt = pt
  G : s.c.un s.c.place = G
  run : s.c.run = run
  over : s.c.over = false
  put : s.put = []
  cls : s.cls = 0
  whole : s.whole = true
section
variable {s : bD} {L : List Int} {pt : Int} {G : List (List dQ)} {run : Bool} {r : Int}
theorem Out.begin (h : Out s L pt G run) : QI s.bT L pt G run ∧ s.yc = 0 := by
  unfold bD.bT bD.yc
  rw [if_neg (by rw [h.inn]; decide), if_neg (by rw [h.inn]; decide)]
  exact ⟨⟨rfl, h.L, h.pt, h.G, h.run, h.over, rfl, rfl, rfl⟩, rfl⟩
def GN (G : List (List dQ)) (run : Bool) (x : dQ) : List (List dQ) := if run then (match G.getLast? with | some g => G.dropLast ++ [g ++ [x]] | none => [[x]]) else G ++ [[x]]
theorem QI.QJ (h : QI s L pt G run) (h1 : 0 ≤ pt ∧ pt ≤ L.length) (h2 : L.length < 1024) (h3 : dO G [] < 16384) :
    s.Nr [r] = 0 ∧ s.vw [r] = { (s.iI (L.take pt.toNat ++ [r] ++ L.drop pt.toNat) (pt + 1) (lC L s.c.mark pt pt [r])) with put := [(pt, [], [r])], cls := 3 } := by
  have hto : s.yg [r] = pt := by unfold bD.yg; rw [h.over]; exact h.pt
  have hE : iW L pt pt [r] = 0 := by unfold iW; rw [if_neg (by omega), if_neg (by simp; omega)]
  have hE' : s.jZ s.c.pt (s.yg [r]) [r] = 0 := by unfold bD.jZ; rw [if_pos h.inn, hto, h.pt, h.L]; exact hE
  have hP : kQ L pt pt pt [r] = pt + 1 := by unfold kQ bG; rw [if_pos hE, if_neg (by omega), if_pos (by omega)]; rfl
  have hD : iY L pt pt [r] = [] := by unfold iY; rw [if_pos hE]; simp
  have hI : iZ L pt pt [r] = [r] := by unfold iZ; rw [if_pos hE]
  have hA : mG L pt pt [r] = pt := by unfold mG; rw [if_pos hE]
  have hL : kP L pt pt [r] = L.take pt.toNat ++ [r] ++ L.drop pt.toNat := by unfold kP; rw [if_pos hE]
  have hS : s.jc s.c.pt (s.yg [r]) [r] = { (s.iI (L.take pt.toNat ++ [r] ++ L.drop pt.toNat) (pt + 1) (lC L s.c.mark pt pt [r])) with put := [(pt, [], [r])] } := by
    unfold bD.jc
    rw [if_pos h.inn, hto, h.pt, h.L, hP, hD, hI, hA, hL]
    unfold bD.lJ
    rw [if_neg (by simp), if_neg (by
      show ¬ 16384 ≤ dO (s.c.un s.c.place) s.put
      rw [h.G, h.put]; omega)]
    show _ = _
    unfold bD.iI
    simp only [h.put, List.nil_append]
  refine ⟨hE', ?_⟩
  unfold bD.vw
  rw [if_pos h.inn]
  dsimp only
  rw [if_pos ⟨hE', h.cls⟩, hS]
theorem I7 (u : bD) (h : u.inn = true) : (u.ji 0).c.L = u.c.L := by by_cases ha : u.argues = true <;> by_cases hp : u.put = [] <;> by_cases hc : u.cls = 2 <;> simp [bD.ji, bD.iQ, bD.dZ, bD.dI, bD.sO, bD.jH, bD.iH, bD.here, fD, ha, hp, hc, h]
theorem EO (u : bD) (h : u.inn = true) : (u.ji 0).c.pt = u.c.pt := by by_cases ha : u.argues = true <;> by_cases hp : u.put = [] <;> by_cases hc : u.cls = 2 <;> simp [bD.ji, bD.iQ, bD.dZ, bD.dI, bD.sO, bD.jH, bD.iH, bD.here, fD, ha, hp, hc, h]
theorem SA (u : bD) (h : u.inn = true) : (u.ji 0).c.E = u.c.E := by by_cases ha : u.argues = true <;> by_cases hp : u.put = [] <;> by_cases hc : u.cls = 2 <;> simp [bD.ji, bD.iQ, bD.dZ, bD.dI, bD.sO, bD.jH, bD.iH, bD.here, fD, ha, hp, hc, h]
theorem PX (u : bD) (h : u.inn = true) : (u.ji 0).c.at_ = u.c.at_ := by by_cases ha : u.argues = true <;> by_cases hp : u.put = [] <;> by_cases hc : u.cls = 2 <;> simp [bD.ji, bD.iQ, bD.dZ, bD.dI, bD.sO, bD.jH, bD.iH, bD.here, fD, ha, hp, hc, h]
theorem DJ (u : bD) (h : u.inn = true) : (u.ji 0).c.over = u.c.over := by by_cases ha : u.argues = true <;> by_cases hp : u.put = [] <;> by_cases hc : u.cls = 2 <;> simp [bD.ji, bD.iQ, bD.dZ, bD.dI, bD.sO, bD.jH, bD.iH, bD.here, fD, ha, hp, hc, h]
theorem BI (u : bD) (h : u.inn = true) : (u.ji 0).inn = false := by by_cases ha : u.argues = true <;> by_cases hp : u.put = [] <;> by_cases hc : u.cls = 2 <;> simp [bD.ji, bD.iQ, bD.dZ, bD.dI, bD.sO, bD.jH, bD.iH, bD.here, fD, ha, hp, hc, h]
theorem Ll (u : bD) (h : u.inn = true) : (u.ji 0).c.last = u.cls := by by_cases ha : u.argues = true <;> by_cases hp : u.put = [] <;> by_cases hc : u.cls = 2 <;> simp [bD.ji, bD.iQ, bD.dZ, bD.dI, bD.sO, bD.jH, bD.iH, bD.here, fD, ha, hp, hc, h]
theorem GR (u : bD) (h : u.inn = true) : (u.ji 0).c.run = (u.typed && (!u.put.isEmpty || u.c.run)) := by by_cases ha : u.argues = true <;> by_cases hp : u.put = [] <;> by_cases hc : u.cls = 2 <;> simp [bD.ji, bD.iQ, bD.dZ, bD.dI, bD.sO, bD.jH, bD.iH, bD.here, fD, ha, hp, hc, h]
theorem J4 (u : bD) (h : u.inn = true) : (u.ji 0).c.un (u.ji 0).c.place = u.iH (u.typed && u.c.run) := by by_cases ha : u.argues = true <;> by_cases hp : u.put = [] <;> by_cases hc : u.cls = 2 <;> simp [bD.ji, bD.iQ, bD.dZ, bD.dI, bD.sO, bD.jH, bD.iH, bD.here, fD, ha, hp, hc, h]
theorem QI.typed (h : QI s L pt G run) (h1 : 0 ≤ pt ∧ pt ≤ L.length) (h2 : L.length < 1024) (h3 : dO G [] < 16384) :
    Out ((s.vw [r]).ji 0) (L.take pt.toNat ++ [r] ++ L.drop pt.toNat) (pt + 1) (GN G run (pt, [], [r])) true ∧ (s.vw [r]).tX 0 = 0 := by
  obtain ⟨_, e⟩ := h.QJ (r := r) h1 h2 h3
  have hu : (s.vw [r]).inn = true := by rw [e]; exact h.inn
  have hT : (s.vw [r]).typed = true := by rw [e]; show (((3 : Int) == 3) && s.whole) = true; rw [h.whole]; rfl
  have hp : (s.vw [r]).put = [(pt, [], [r])] := by rw [e]
  have hr : (s.vw [r]).c.run = run := by rw [e]; exact h.run
  have hh : (s.vw [r]).here = G := by rw [e]; exact h.G
  refine ⟨⟨BI _ hu, (I7 _ hu).trans (by rw [e]; rfl), (EO _ hu).trans (by rw [e]; rfl), ?_, ?_, (DJ _ hu).trans (by rw [e]; exact h.over)⟩, by unfold bD.tX; rw [if_pos hu]⟩
  · rw [J4 _ hu, hT, hr, Bool.true_and]
    unfold bD.iH GN
    rw [if_neg (by rw [hp]; simp), hp, hh] <;> rfl
  · rw [GR _ hu, hT, hp]; rfl
def DK (s : bD) (r : Int) : bD := (s.bT.vw [r]).ji (s.bT.Nr [r])
theorem Out.DK (h : Out s L pt G run) (h1 : 0 ≤ pt ∧ pt ≤ L.length) (h2 : L.length < 1024) (h3 : dO G [] < 16384) :
    Out (DK s r) (L.take pt.toNat ++ [r] ++ L.drop pt.toNat) (pt + 1) (GN G run (pt, [], [r])) true := by
  unfold Go.Proofs.YtgndbccogcofjaaGreatDoor.DK
  rw [(h.begin.1.QJ (r := r) h1 h2 h3).1]
  exact (h.begin.1.typed h1 h2 h3).1
theorem Lm (hi : s.inn = true) (hL : s.c.L = L) (hpt : s.c.pt = pt) (hG : s.here = G) (ho : s.c.over = false) (hp : s.put = []) (hc : s.cls = 0) : Out (s.ji 0) L pt G false := by
  have hT : s.typed = false := by unfold bD.typed; rw [hc]; rfl
  refine ⟨BI _ hi, (I7 _ hi).trans hL, (EO _ hi).trans hpt, ?_, ?_, (DJ _ hi).trans ho⟩
  · rw [J4 _ hi]; unfold bD.iH; rw [if_pos hp]; exact hG
  · rw [GR _ hi, hT]; rfl
theorem QI.end_ (h : QI s L pt G run) : Out (s.ji 0) L pt G false := Lm h.inn h.L h.pt h.G h.over h.put h.cls
theorem Out.move (h : Out s L pt G run) (x : Int) (hx : 0 ≤ x ∧ x ≤ L.length) : Out ((s.bT.sQ x).ji 0) L x G false := by
  have hb := h.begin.1
  refine QI.end_ (s := s.bT.sQ x) (run := run) ?_
  unfold bD.sQ
  rw [if_pos hb.inn]
  refine ⟨hb.inn, hb.L, ?_, hb.G, hb.run, hb.over, hb.put, hb.cls, hb.whole⟩
  show Ql s.bT.c.L.length s.bT.c.pt x = x
  unfold Ql
  rw [if_pos (by rw [hb.L]; omega)]
end
end Go.Proofs.YtgndbccogcofjaaGreatDoor
end
section
namespace Go.Proofs.YtgndbccogcofjaaGreatDoor
open Go.RowKit
def PY (p : Int) : List Int → List dQ
  | [] => []
  | r :: l => (p, [], [r]) :: PY (p + 1) l
theorem Oc (p : Int) (l : List Int) (r : Int) : PY p (l ++ [r]) = PY p l ++ [(p + l.length, [], [r])] := by
  induction l generalizing p with
  | nil => simp [PY]
  | cons x l ih => simp only [List.cons_append, PY, ih, List.length_cons]; rw [show p + 1 + (l.length : Int) = p + ((l.length + 1 : Nat) : Int) from by omega]
theorem PZ (p : Int) (l : List Int) : (PY p l).length = l.length := by induction l generalizing p with
  | nil => rfl
  | cons x l ih => simp [PY, ih]
def yS (G : List (List dQ)) (p : Int) (l : List Int) : List (List dQ) := if l = [] then G else G ++ [PY p l]
theorem Lp (G : List (List dQ)) (p : Int) (l : List Int) : dO (yS G p l) [] = dO G [] + l.length := by
  unfold yS dO; split
  · rename_i h; subst h; simp
  · simp [PZ]
theorem I8 (G : List (List dQ)) (p : Int) (l : List Int) (r : Int) : GN (yS G p l) (!l.isEmpty) (p + l.length, [], [r]) = yS G p (l ++ [r]) := by
  unfold GN yS
  rw [if_neg (show l ++ [r] ≠ [] by simp)]
  cases l with
  | nil => simp [PY]
  | cons x l => rw [if_neg (show ¬ x :: l = [] by simp)]; simp only [List.isEmpty_cons, Bool.not_false, if_true, List.getLast?_append, List.getLast?_singleton, Option.some_or, List.dropLast_concat, Oc]
theorem I9 (s : bD) : s.bT.inn = true := by unfold bD.bT; split; assumption; rfl
section
variable {s : bD} {L : List Int} {pt : Int} {G : List (List dQ)} {run : Bool} {r : Int}
def BJ (s : bD) (l : List Int) : bD := l.foldl DK s
theorem Out.BJ (h : Out s L pt G false) (h1 : 0 ≤ pt ∧ pt ≤ L.length) (l : List Int) (h2 : L.length + l.length ≤ 1024) (h3 : dO G [] + l.length ≤ 16384) :
    Out (BJ s l) (L.take pt.toNat ++ l ++ L.drop pt.toNat) (pt + l.length) (yS G pt l) (!l.isEmpty) := by
  suffices hh : ∀ n (l : List Int), l.length = n → L.length + n ≤ 1024 → dO G [] + n ≤ 16384 → Out (Go.Proofs.YtgndbccogcofjaaGreatDoor.BJ s l) (L.take pt.toNat ++ l ++ L.drop pt.toNat) (pt + l.length) (yS G pt l) (!l.isEmpty) from hh _ l rfl h2 h3
  intro n
  induction n with
  | zero =>
    intro l hn _ _
    obtain rfl := List.length_eq_zero_iff.1 hn
    simpa [yS, Go.Proofs.YtgndbccogcofjaaGreatDoor.BJ] using h
  | succ n ih =>
    intro l hn h2 h3
    rcases List.eq_nil_or_concat l with rfl | ⟨l, r, rfl⟩
    · cases hn
    rw [List.concat_eq_append] at hn ⊢
    have hn2 : l.length = n := by simpa using hn
    have h4 := ih l hn2 (by omega) (by omega)
    have hl : (L.take pt.toNat ++ l ++ L.drop pt.toNat).length = L.length + l.length := by simp; omega
    have h5 := h4.DK (r := r) (by rw [hl]; omega) (by rw [hl]; omega) (by rw [Lp]; omega)
    have e1 : (L.take pt.toNat ++ l ++ L.drop pt.toNat).take (pt + l.length).toNat = L.take pt.toNat ++ l := by
      rw [List.take_append_of_le_length (by simp; omega), List.take_of_length_le (by simp; omega)]
    have e2 : (L.take pt.toNat ++ l ++ L.drop pt.toNat).drop (pt + l.length).toNat = L.drop pt.toNat := by
      rw [List.drop_append_of_le_length (by simp; omega), List.drop_of_length_le (by simp; omega), List.nil_append]
    rw [e1, e2, I8] at h5
    have e3 : Go.Proofs.YtgndbccogcofjaaGreatDoor.BJ s (l ++ [r]) = Go.Proofs.YtgndbccogcofjaaGreatDoor.DK (Go.Proofs.YtgndbccogcofjaaGreatDoor.BJ s l) r := by unfold Go.Proofs.YtgndbccogcofjaaGreatDoor.BJ; rw [List.foldl_append]; rfl
    rw [e3]
    rw [show pt + ((l ++ [r]).length : Int) = pt + l.length + 1 from by simp; omega, show (!(l ++ [r]).isEmpty) = true from by simp, ← List.append_assoc]
    exact h5
end
end Go.Proofs.YtgndbccogcofjaaGreatDoor
end
section
namespace Go.Proofs.YtgndbccogcofjaaGreatDoor
open Go.RowKit
section
variable {s : bD}
theorem P5 (s : bD) (x : dQ) : (s.lJ x).c.L = s.c.L ∧ (s.lJ x).c.pt = s.c.pt ∧ (s.lJ x).c.mark = s.c.mark ∧ (s.lJ x).c.E = s.c.E ∧ (s.lJ x).c.at_ = s.c.at_ ∧ (s.lJ x).inn = s.inn ∧ (s.lJ x).cls = s.cls ∧ (s.lJ x).was = s.was := by
  unfold bD.lJ
  split
  · simp
  · split <;> simp [bD.jH]
theorem P6 (h : s.inn = true) (i j : Int) (l : List Int) : (s.jc i j l).c.L = kP s.c.L i j l ∧ (s.jc i j l).c.pt = kQ s.c.L s.c.pt i j l ∧ (s.jc i j l).c.mark = lC s.c.L s.c.mark i j l ∧ (s.jc i j l).c.E = s.c.E ∧ (s.jc i j l).c.at_ = s.c.at_ ∧ (s.jc i j l).inn = true ∧ (s.jc i j l).cls = s.cls ∧ (s.jc i j l).was = s.was := by
  unfold bD.jc
  rw [if_pos h]
  obtain ⟨h1, h2, h3, h4, h5, h6, h7, h8⟩ := P5 (s.iI (kP s.c.L i j l) (kQ s.c.L s.c.pt i j l) (lC s.c.L s.c.mark i j l)) (mG s.c.L i j l, iY s.c.L i j l, iZ s.c.L i j l)
  exact ⟨h1, h2, h3, h4, h5, h6.trans h, h7, h8⟩
theorem SB (h : s.inn = true) {i j : Int} {back : Bool} (hi : 0 ≤ i ∧ i ≤ j ∧ j ≤ s.c.L.length) (hL : s.c.L.length ≤ 1024) (hk : (s.kD i j back).1 = 0) (hp : i ≤ s.c.pt ∧ s.c.pt ≤ j) :
    (s.qY i j back).c.L = s.c.L.take i.toNat ++ s.c.L.drop j.toNat ∧ (s.qY i j back).c.pt = i ∧ (s.qY i j back).c.E = (s.kD i j back).2.1 ∧ (s.qY i j back).c.at_ = (s.kD i j back).2.2 ∧ (s.qY i j back).inn = true ∧ (s.qY i j back).cls = 1 := by
  have hc : s.kE i j back = 0 := by
    unfold bD.kE
    rw [if_pos h, if_neg (by unfold bD.jy; omega), hk]
  have hE : iW s.c.L i j [] = 0 := by unfold iW; rw [if_neg (by omega), if_neg (by simp; omega)]
  unfold bD.qY
  rw [if_pos hc]
  have e : s.oh i j back = { s.zu (s.kD i j back).2.1 (s.kD i j back).2.2 with killed := true, cls := 1 } := by unfold bD.oh; rw [if_pos hc]
  have ei : (s.oh i j back).inn = true := by rw [e]; exact h
  obtain ⟨h1, h2, h3, h4, h5, h6, h7, h8⟩ := P6 ei i j []
  refine ⟨h1.trans ?_, h2.trans ?_, h4.trans (by rw [e]; rfl), h5.trans (by rw [e]; rfl), h6, h7.trans (by rw [e])⟩
  · rw [show (s.oh i j back).c.L = s.c.L from by rw [e]; rfl]
    unfold kP
    rw [if_pos hE]; simp
  · rw [show (s.oh i j back).c.L = s.c.L from by rw [e]; rfl, show (s.oh i j back).c.pt = s.c.pt from by rw [e]; rfl]
    unfold kQ bG
    rw [if_pos hE]
    simp only [List.length_nil]
    split <;> (try split) <;> omega
end
structure EP (s : bD) (A : List Int) (a b : Int) : Prop where
  inn : s.inn = false
  ok : 0 ≤ a ∧ a ≤ b ∧ b ≤ A.length
  L : s.c.L = A.take a.toNat ++ A.drop b.toNat
  pt : s.c.pt = a
  ring : (s.c.E = [] ∧ a = b) ∨ (s.c.E = [(A.drop a.toNat).take (b.toNat - a.toNat)] ∧ s.c.at_ = 0 ∧ s.c.last = 1)
section
variable {s : bD} {A : List Int} {a b k : Int}
theorem EP.len (h : EP s A a b) : (s.c.L.length : Int) = A.length - (b - a) := by
  have := h.ok
  rw [h.L]; simp; omega
theorem ql (s : bD) : s.bT.c = s.c := by unfold bD.bT; split <;> rfl
theorem Ja (h : EP s A a b) (hA : A.length ≤ 1024) {i j : Int} {back : Bool} {l : List Int} (hcut : s.bT.cut i j = l) (hl : l.length + (b - a) ≤ A.length) :
    (s.bT.kD i j back).1 = 0 ∧ ((s.bT.kD i j back).2.1 = [] ∧ l = [] ∧ a = b ∨ (s.bT.kD i j back).2.1 = [if back then l ++ (A.drop a.toNat).take (b.toNat - a.toNat) else (A.drop a.toNat).take (b.toNat - a.toNat) ++ l] ∧ (s.bT.kD i j back).2.2 = 0) := by
  have ho := h.ok
  have hb : s.bT.killed = false := by unfold bD.bT; rw [if_neg (by rw [h.inn]; decide)]
  unfold bD.kD
  rw [hcut, ql]
  rcases h.ring with ⟨h1, h2⟩ | ⟨h1, h2, h3⟩
  · rw [h1]
    have hx : (A.drop a.toNat).take (b.toNat - a.toNat) = [] := by rw [h2]; simp
    have hw : s.bT.way back = 0 ∨ s.bT.way back = 1 ∨ s.bT.way back = 2 := by unfold bD.way; split <;> (try split) <;> simp
    unfold tK
    rw [if_neg (by omega), if_neg (by omega), if_neg (by simp)]
    split
    · rename_i h4
      exact ⟨rfl, .inl ⟨rfl, List.length_eq_zero_iff.1 h4.2, h2⟩⟩
    · rw [hx]
      exact ⟨rfl, .inr ⟨by cases back <;> simp, rfl⟩⟩
  · rw [h1, h2]
    have hw : s.bT.way back = if back then 2 else 1 := by unfold bD.way; rw [if_pos (by rw [ql]; exact .inl h3)]
    have hlen : ((A.drop a.toNat).take (b.toNat - a.toNat)).length = b.toNat - a.toNat := by simp; omega
    rw [hw]
    unfold tK
    rw [if_neg (by cases back <;> simp), if_neg (by omega), if_pos (by cases back <;> simp), if_neg (by simp only [List.getD_cons_zero]; omega)]
    exact ⟨rfl, .inr ⟨by cases back <;> simp, rfl⟩⟩
theorem EP.step (h : EP s A a b) (hA : A.length ≤ 1024) {i j a' b' : Int} {back : Bool} {l : List Int} (hij : 0 ≤ i ∧ i ≤ j ∧ j ≤ s.c.L.length) (hp : i ≤ a ∧ a ≤ j) (hcut : s.bT.cut i j = l) (hl : l.length + (b - a) ≤ A.length)
    (ho : 0 ≤ a' ∧ a' ≤ b' ∧ b' ≤ A.length) (hi : i = a') (hL : s.c.L.take i.toNat ++ s.c.L.drop j.toNat = A.take a'.toNat ++ A.drop b'.toNat) (he : l = [] → a = b → a' = b')
    (hx : (if back then l ++ (A.drop a.toNat).take (b.toNat - a.toNat) else (A.drop a.toNat).take (b.toNat - a.toNat) ++ l) = (A.drop a'.toNat).take (b'.toNat - a'.toNat)) :
    EP ((s.bT.qY i j back).ji 0) A a' b' := by
  obtain ⟨h1, h2⟩ := Ja h hA (back := back) hcut hl
  have hlen := h.len
  have hok := h.ok
  obtain ⟨k1, k2, k3, k4, k5, k6⟩ := SB (s := s.bT) (I9 s) (i := i) (j := j) (back := back) (by rw [ql]; exact hij) (by rw [ql]; omega) h1 (by rw [ql, h.pt]; exact hp)
  rw [ql] at k1
  refine ⟨BI _ k5, ho, (I7 _ k5).trans (k1.trans hL), (EO _ k5).trans (k2.trans hi), ?_⟩
  rw [SA _ k5, PX _ k5, Ll _ k5, k3, k4, k6]
  rcases h2 with ⟨q1, q2, q3⟩ | ⟨q1, q2⟩
  · exact .inl ⟨q1, he q2 q3⟩
  · exact .inr ⟨by rw [q1, hx], q2, rfl⟩
theorem EP.back (h : EP s A a b) (hA : A.length ≤ 1024) (hk : 0 ≤ k ∧ k ≤ a) : EP ((s.bT.qY (s.bT.c.pt - k) s.bT.c.pt true).ji 0) A (a - k) b := by
  have hlen := h.len
  have hok := h.ok
  rw [ql, h.pt]
  have e1 : s.bT.cut (a - k) a = (A.drop (a - k).toNat).take k.toNat := by
    unfold bD.cut
    rw [ql, h.L, List.drop_append_of_le_length (by simp; omega), List.take_append_of_le_length (by simp; omega), List.drop_take]
    rw [List.take_take]; congr 1; omega
  refine h.step hA (l := (A.drop (a - k).toNat).take k.toNat) (by omega) (by omega) e1 (by simp; omega) (by omega) rfl ?_ ?_ ?_
  · rw [h.L, List.take_append_of_le_length (by simp; omega), List.take_take, List.drop_append, List.drop_of_length_le (by simp; omega), List.nil_append]
    rw [show min (a - k).toNat a.toNat = (a - k).toNat from by omega, show a.toNat - (A.take a.toNat).length = 0 from by simp; omega, List.drop_zero]
  · intro h1 h2
    have h3 := congrArg List.length h1
    simp at h3; omega
  · simp only [if_true]
    rw [show (A.drop a.toNat).take (b.toNat - a.toNat) = ((A.drop (a - k).toNat).drop k.toNat).take (b.toNat - a.toNat) from by rw [List.drop_drop]; congr 2; omega, show b.toNat - (a - k).toNat = k.toNat + (b.toNat - a.toNat) from by omega, List.take_add]
end
end Go.Proofs.YtgndbccogcofjaaGreatDoor
end
section
namespace Go.Proofs.YtgndbccogcofjaaGreatDoor
open Go.RowKit
open _root_.Go.Proofs.Tryz
namespace bD
variable (s : bD)
def VA (x : Int) : bD := (s.bT.sQ x).ji (s.bT.Bc x)
end bD
def Oe (l : List nS) (ln : List Int) : bD := (bD.new (JZ l) (J3 l) 4096).I5 (JZ l) (J3 l) 4096 ln
def QK (l : List nS) (ln : List Int) (pt : Int) : bD := (Oe l ln).VA pt
theorem Jb (l : List nS) (ln : List Int) : (bD.new (JZ l) (J3 l) 4096).qF ln = if 1024 < ln.length then 3 else 0 := by
  unfold bD.qF; rw [if_neg (by rw [show (bD.new (JZ l) (J3 l) 4096).inn = false from rfl]; decide)]
section
variable {w0 w : World} {F : HP} {l : List nS} {hv lv : Value} {ln : List Int} {pt : Int}
theorem ER (H : aB w0 w F) (q1 : Kt w0 F 2 hv l.length (l.flatMap kS)) (q2 : iD w0 F .i32 lv ln) (hb : l.length ≤ 5864062014805) (hm : uP l = 0) (hln : ln.length ≤ 1024) :
  eG prog 20 #[.agg #[hv, lv, .int .i64 pt]] w fun v w' => ∃ e, v = .pointer (some ⟨e, 0, none⟩) ∧ aB w0 w' (dw e (QK l ln pt) • F) := by
 refine fP func20 ntmps20 ?_
 dsimp only [aX, Nat.reduceAdd]
 refine ay (ah (jo (gV (l := [_, _, _]) H rfl rfl) ?_))
 rintro _ w1 ⟨b1, rfl, H1⟩
 refine aV rfl (aA (aj (ay (ah (aZ 0 underlying49 rfl sizeOf47 rfl (dP underlying47 rfl (H1).get.2 rfl (dn rfl func39 (BH H1 (by decide) (fun W HW => q1 _ (HW.right)) hb hm) ?_)))))))
 rintro _ w2 ⟨p2, rfl, H2⟩
 refine aO rfl (CW rfl rfl (CW rfl rfl (aV rfl (aV rfl (aA (aj (ay (ay (ah (aO rfl (aW (dU rfl rfl) (aA (aj (aQ rfl (fun h => by exfalso; (try simp only [aI] at h); simp at h) (fun h1 => ?_)))))))))))))))
 (try simp only [aI] at h1)
 refine aS (aj (ay (ah (aO rfl (dn rfl func40 (IU H2) ?_)))))
 rintro _ w3 ⟨e3, rfl, H3⟩
 refine aO rfl (CW rfl rfl (CW rfl rfl (aV rfl (aV rfl (aA (aj (ay (ay (ah (aO rfl (aW (dU rfl rfl) (fV rfl (fun h => by exfalso; (try simp only [aI] at h); simp at h) (fun h2 => ?_)))))))))))))
 (try simp only [aI] at h2)
 refine bf (aO rfl (bf (aW (fO underlying26 rfl rfl) (eY rfl rfl (fV rfl (fun h => by exfalso; (try simp only [aI] at h); simp at h) (fun h3 => ?_))))))
 (try simp only [aI] at h3)
 refine bf (aO rfl (bf (aO rfl (bf (aZ 1 underlying49 rfl sizeOf22 rfl (bf (dP underlying22 rfl (H3.f3).get.2 rfl (bf (dn rfl func41 (EL H3.f2.f2 (fun W HW => q2 _ (HW.right))) ?_)))))))))
 rintro _ w4 ⟨rfl, H4⟩
 refine bf (aW (dU rfl rfl) (eY rfl rfl (aA (aj (aQ rfl (fun h => by exfalso; (try simp only [aI] at h); have h9 := Jb l ln; rw [if_neg (by omega)] at h9; exact h h9) (fun h4 => ?_))))))
 (try simp only [aI] at h4)
 refine aS (aj (ay (ah (aO rfl (dn rfl func26 (xw (s := Oe l ln) H4) ?_)))))
 rintro _ w5 ⟨rfl, H5⟩
 refine aA (aj (ay (ah (aO rfl (aO rfl (aZ 2 underlying49 rfl sizeOf3 rfl (dP underlying3 rfl (H5.f3).get.2 rfl (dn rfl func42 (Gp H5) ?_))))))))
 rintro _ w6 ⟨rfl, H6⟩
 refine dn rfl func27 (BD H6) ?_
 rintro _ w7 ⟨rfl, H7⟩
 refine aA (aj (ay (ah (aO rfl (aV rfl (aA (aj (aJ (aH (.inl rfl) results20 rfl ?_)))))))))
 exact ⟨_, rfl, H7.f2.right.f2.right⟩
end
end Go.Proofs.YtgndbccogcofjaaGreatDoor
end
section
namespace Go.Proofs.YtgndbccogcofjaaGreatDoor
open Go.RowKit
theorem uo {P : Program} {L : List (Nat × Value)} {w : World} {ty t : TypeId} {fs : Array Field} {f : Field} {i : Nat} {x : Operand} {cs : Array Value} {u : Value} (off : Nat) (ht : P.underlying t = some (.struct fs)) (hf : fs[i]? = some f) (ho : f.offset = off) (hp : jM P f.type = true) (hx : ev L x = some (.agg cs)) (hc : cs[off]? = some u) :
    Val P L (.field t x i) ty w u w := fun ρ hρ _ _ _ _ => by
  simp [execOp, hρ _ _ hx, Instr.field, run_underlying ht, hf, part, asAgg, wG hp, ho, hc]
end Go.Proofs.YtgndbccogcofjaaGreatDoor
end
