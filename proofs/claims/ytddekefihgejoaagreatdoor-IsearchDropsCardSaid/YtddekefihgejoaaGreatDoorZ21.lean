import Derived.Test.YtddekefihgejoaaGreatDoorZ2
import Derived.Test.YtddekefihgejoaaGreatDoorZ20
import Derived.Test.YtddekefihgejoaaGreatDoorZ12
import Derived.Test.YtddekefihgejoaaGreatDoorZ14
import Derived.Test.YtddekefihgejoaaGreatDoorZ13
import Derived.Test.YtddekefihgejoaaGreatDoorZ6
import Derived.Test.YtddekefihgejoaaGreatDoorZ9
import Derived.Test.YtddekefihgejoaaGreatDoorZ16
import Derived.Laws.StructEq
import Derived.Test.YtddekefihgejoaaGreatDoorZ7
set_option linter.unusedSimpArgs false
set_option linter.unusedVariables false
/- Texts of mine, joined, their names in short: IsD EdSt IsMade ETyM IsBegun ESame Ref7 Ref7b ESame2. -/
section
namespace Go.Proofs.YtddekefihgejoaaGreatDoor
open Go.RowKit
open _root_.Go.Proofs.Tryz
section
variable {w0 w : World} {F : HP} {p n n0 e old box : Nat} {S : SS} {s : bH} {v lv Iz pv qv uv : Value} {us ws : List Value} {l : List Int} {back : Bool} {at_ place : Int} {t u : Ol}
theorem IK (H : aA w0 w (Qg old (.cells (wK pv t n).toArray 52 (0, 0)) • Qg box (.cells #[.pointer (some ⟨p, 0, none⟩)] 46 (0, 0)) • cO p (.cells (yh lv Iz qv uv u n0).toArray 75 (0, 0)) • F)) (h1 : pv.oneCell' = true) :
  fQ prog 119 #[.pointer (some ⟨old, 0, none⟩), .pointer (some ⟨box, 0, none⟩)] w fun _ w' => aA w0 w' (Qg old (.cells (wK pv t n).toArray 52 (0, 0)) • Qg box (.cells #[.pointer (some ⟨p, 0, none⟩)] 46 (0, 0)) • cO p (.cells (yh lv Iz pv uv t n).toArray 75 (0, 0)) • F) := by
 refine iw func119 ntmps119 ?_
 dsimp only [aZ, Nat.reduceAdd]
 refine ah (dA underlying46 rfl (H.f2).Zo rfl (aU (bQ underlying52 rfl sizeOf52 rfl rfl (H).Zo) (bT rfl (bf 2 underlying75 rfl sizeOf52 rfl (aI (bC 2 (l' := [_, _, _, _, _, _, _, _, _]) (us := [_, _, _, _, _, _]) H.f3 sizeOf52 rfl rfl rfl (aC (by first | rfl | assumption) (aC (by first | rfl | assumption) (aC (by first | rfl | assumption) (aC (by first | rfl | assumption) (aC (by first | rfl | assumption) (aC (by first | rfl | assumption) bg)))))) rfl rfl) ?_)))))
 rintro _ w1 H1
 refine aB (gq (.inr rfl) results119 ?_)
 exact H1.f3.f3
theorem Ve (h : yu S) : yu S.xK := by
  unfold SS.xK
  split
  · exact h
  · rename_i hz
    obtain ⟨h1, h2, h3, h4, h5⟩ := h
    have hm : S.was.getD (S.was.length - 1) default ∈ S.was := by rw [List.getD_eq_getElem?_getD, List.getElem?_eq_getElem (by omega)]; exact List.getElem_mem _
    refine ⟨h1, (h5 _ hm).1, (h5 _ hm).2, by show (S.was.take _).length ≤ _; rw [List.length_take]; omega, fun t ht => h5 t (List.mem_of_mem_take ht)⟩
theorem Nj {vs : List Value} {ts : List Ol} (H : aA w0 w (qH p n vs ts • F)) (i : Nat) : aA w0 w (qH p n (vs.take i) (ts.take i) • F) := H.Dh (pY (fun I h => ⟨by simp [h.1], fun j hj => by
  rw [List.length_take] at hj
  rw [uK (by omega), uK (by omega)]
  exact h.2 j (by omega)⟩) F)
theorem KR (H : aA w0 w (dZ p S • F)) : fQ prog 21 #[.pointer (some ⟨p, 0, none⟩)] w fun v w' => v = .int .i64 S.KN ∧ aA w0 w' (dZ p S.xK • F) := by
 refine iw func21 ntmps21 ?_
 dsimp only [aZ, Nat.reduceAdd]
 refine ay (ah (aW rfl (aB (aj (ay (ay (ah (aP rfl (dD rfl func60 (qy H) ?_)))))))))
 rintro _ _ ⟨rfl, rfl⟩
 refine aB (aj (pW (aQ (aj (ay ?_)))))
 obtain ⟨IB, Ag, IC, IE, IG, II, oH, ku⟩ := (H).search
 have hwl := oH.2.2.2.1
 refine ah (aP rfl (bT rfl (bf 8 underlying75 rfl sizeOf73 rfl (dA underlying73 rfl (ku).get.2 rfl (aU (eY ((ku.f6).aJ) underlying73 rfl) (aU (je rfl rfl (by omega)) (aW rfl (aB (aj (ay (ay (ah (aP rfl (aU (dV rfl rfl) (aB (aj (aO rfl (fun h1 => ?_) (fun h1 => ?_))))))))))))))))))
 ·(try simp only [aG] at h1)
  have hz : S.was.length = 0 := by have h9 := h1; omega
  refine ay (ah (aW rfl (aB (aj (aN (aK (aT (.inl rfl) results21 rfl ?_)))))))
  have Js := ku.f7.f7.f7.f7.f7.f7.f7
  have Jt := aA.jf oH Js
  exact ⟨by unfold SS.KN; rw [if_pos hz], by unfold SS.xK; rw [if_pos hz]; exact Jt⟩
 ·(try simp only [aG] at h1)
  have hz : ¬ S.was.length = 0 := by have h9 := h1; omega
  refine aQ (aj (ay (ah (aP rfl (bT rfl (bf 8 underlying75 rfl sizeOf73 rfl (dA underlying73 rfl (ku).get.2 rfl (aP rfl ?_))))))))
  obtain ⟨acq, acr, acs, Zu⟩ := Rd.kN ((ku.f6).aJ) (by omega)
  cases Zu
  refine aU (bV underlying73 sizeOf1 rfl rfl (by omega)) ?_
  refine aU (dB (bG underlying1 rfl) rfl (by first | exact Rd.oV ((ku.f6).aJ) (by omega) | exact Rd.CQ ((ku.f6).aJ) (by omega) | exact Rd.BH ((ku.f6).aJ) (by omega))) ?_
  rw [show (((S.was.length : Nat) : Int) - 1).toNat = S.was.length - 1 from by omega]
  obtain ⟨old, box, qv, hf, HU⟩ := Nh (j := S.was.length - 1) (ku.f7) (by omega)
  rw [hf]
  refine gB (lN (Lm (first := []) (cap := [.pointer (some ⟨old, 0, none⟩), .pointer (some ⟨box, 0, none⟩)]) rfl rfl func119 rfl rfl) (IK (HU.f5.f3.f3) (Rd.one ((HU.f3).jH)))) ?_
  rintro _ w6 H6
  refine aB (aj (ay (ah (aP rfl (aP rfl (bT rfl (bf 8 underlying75 rfl sizeOf73 rfl (dA underlying73 rfl (H6.f3).get.2 rfl (aP rfl (aU (uH ((H6.f10).aJ) underlying73 sizeOf1 rfl rfl rfl (by omega)) (bT rfl (bf 8 underlying75 rfl sizeOf73 rfl (aI (aS 8 (l' := [_, _, _, _, _, _, _, _, _]) H6.f3 sizeOf73 rfl rfl (by first | rfl | exact Rd.one (Rd.Vs ((H6.f10).aJ) (by omega))) rfl rfl) ?_)))))))))))))
  rintro _ w7 H7
  refine aB (aj (ay (ah (aW rfl (aB (aj (aN (aT (.inl rfl) results21 rfl ?_))))))))
  have X := H7.f2.right.f2.right.f7.right.f3.f7.f4.f7.f7.f7.f7
  have hn1 : (((S.was.length : Nat) : Int) - 1).toNat = S.was.length - 1 := by omega
  have X2 := Nj ((X.f6.Jc (h := S.was.length - 1) (by omega)).f7) (S.was.length - 1)
  rw [Nat.mul_one] at X2
  have e1 : S.xK = { S with now := S.was.getD (S.was.length - 1) default, was := S.was.take (S.was.length - 1) } := by unfold SS.xK; rw [if_neg hz]
  refine ⟨by unfold SS.KN; rw [if_neg hz], ?_⟩
  have hok := Ve oH
  rw [e1] at hok ⊢
  rw [hn1] at X2
  exact aA.Nb (S := { S with now := S.was.getD (S.was.length - 1) default, was := S.was.take (S.was.length - 1) }) hok (by show _ = (S.was.take (S.was.length - 1)).length; rw [List.length_take]; omega) X2.f2.f7.f7.f7.f7.f7
theorem wL (H : aA w0 w (dZ p S • F)) : fQ prog 19 #[.pointer (some ⟨p, 0, none⟩)] w fun v w' => ∃ u, v = .agg (wK u S.now S.L.length).toArray ∧ aA w0 w' (gW 21 .i32 u S.now.pat • dZ p S • F) := by
 refine iw func19 ntmps19 ?_
 dsimp only [aZ, Nat.reduceAdd]
 refine ay (ah (gB (bW (l := [_, _, _, _, _, _]) H zeroValue52 rfl) ?_))
 rintro _ w1 ⟨b1, rfl, H1⟩
 refine aB (aj (ay (ay (ah (aP rfl (dD rfl func60 (qy H1.f2) ?_))))))
 rintro _ _ ⟨rfl, rfl⟩
 refine aB (aj (pW (aQ (aj (ay ?_)))))
 obtain ⟨IB, Ag, IC, IE, IG, II, oH, ku⟩ := (H1.f2).search
 have hpl := oH.2.1
 refine ah (aP rfl (bT rfl (bf 2 underlying75 rfl sizeOf52 rfl (aU (kY 2 (xs := [_, _, _, _, _, _]) underlying52 rfl sizeOf52 rfl rfl (ku).get.2 rfl) (gB (bW (l := [_, _, _, _, _, _]) ku zeroValue52 rfl) ?_)))))
 rintro _ w4 ⟨b4, rfl, H4⟩
 refine aI (bC 0 (l' := [_, _, _, _, _, _]) (us := [_, _, _, _, _, _]) H4 sizeOf52 rfl rfl rfl (aC (by first | rfl | exact Rd.one ((H4.f6).jH)) (aC (by first | rfl | assumption) (aC (by first | rfl | assumption) (aC (by first | rfl | assumption) (aC (by first | rfl | assumption) (aC (by first | rfl | assumption) bg)))))) rfl rfl) ?_
 rintro _ w5 H5
 refine aB (aj (ay (ah (bf 0 underlying52 rfl sizeOf23 rfl (dA underlying23 rfl (H5).get.2 rfl (dD rfl func59 (kH H5 (fun W HW => (HW.f6).jH) (by omega)) ?_))))))
 rintro u6 w6 H6
 refine bf 0 underlying52 rfl sizeOf23 rfl (aI (aS 0 (l' := [_, _, _, _, _, _]) H6.f2 sizeOf23 rfl rfl (by first | rfl | exact Rd.one ((H6).aJ)) rfl rfl) ?_)
 rintro _ w7 H7
 refine aB (aj (ay (ah (aU (bQ underlying52 rfl sizeOf52 rfl rfl (H7).get.2) (aI (bC 0 (l' := [_, _, _, _, _, _]) (us := [_, _, _, _, _, _]) H7.f10 sizeOf52 rfl rfl rfl (aC (by first | rfl | exact Rd.one ((H7.f2).aJ)) (aC (by first | rfl | assumption) (aC (by first | rfl | assumption) (aC (by first | rfl | assumption) (aC (by first | rfl | assumption) (aC (by first | rfl | assumption) bg)))))) rfl rfl) ?_)))))
 rintro _ w8 H8
 refine aB (aj (aN ?_))
 refine kM (.inl rfl) (Fq results19 rfl underlying52 rfl (by rw [show (prog.info? 52).map (·.size) = some 6 from by kernel_rfl]; rfl) (H8).get.2) ?_
 have Ry := H8.f10.f10.f10.f10.f10.f10.f10
 have Rz := aA.jf oH Ry
 exact ⟨_, rfl, Rz.f2.right.f2.right.f2⟩
theorem Ah (H : aA w0 w (dZ p S • F)) : fQ prog 20 #[.pointer (some ⟨p, 0, none⟩)] w fun v w' => ∃ u, v = .agg (jy u S.now.at_ (-1)) ∧ aA w0 w' (gW 21 .i32 u (S.L.getD S.now.place.toNat []) • dZ p S • F) := by
 refine iw func20 ntmps20 ?_
 dsimp only [aZ, Nat.reduceAdd]
 refine ay (ah (gB (bW (l := [_, _, _]) H zeroValue41 rfl) ?_))
 rintro _ w1 ⟨b1, rfl, H1⟩
 refine aB (aj (ay (ay (ah (aP rfl (dD rfl func60 (qy H1.f2) ?_))))))
 rintro _ _ ⟨rfl, rfl⟩
 refine aB (aj (pW (aQ (aj (ay ?_)))))
 obtain ⟨IB, Ag, IC, IE, IG, II, oH, ku⟩ := (H1.f2).search
 have hpl := oH.2.2.1
 have hln := oH.1.2.2 S.now.place.toNat (by omega)
 have Xo := ku.drew
 have qB := aA.kp (Xo.f8.f8.f8.f8.f8.f8.f8.f8)
 refine vJ [3, 8, 10, 16] qB rfl (fU 0 rfl qB rfl (iZ 1 rfl qB rfl (dU 2 rfl qB 0 underlying75 rfl sizeOf22 rfl (gG 3 rfl qB (fun W hW => iF underlying22 rfl ((Kp.h hW)).get.2 rfl) (fU 4 rfl qB rfl (iZ 5 rfl qB rfl (dU 6 rfl qB 2 underlying75 rfl sizeOf52 rfl (dU 7 rfl qB 3 underlying52 rfl sizeOf3 rfl (gG 8 rfl qB (fun W hW => iF underlying3 rfl ((Kp.h hW)).get.2 rfl) ?_)))))))))
 obtain ⟨Zp, Zq, Zr, TA⟩ := Rd.kN ((Xo.f2).aJ) (by omega)
 cases TA
 refine gZ 9 rfl qB (fun _ => bV underlying22 sizeOf23 rfl rfl (by omega)) ?_
 refine gG 10 rfl qB (fun W hW => dB (bG underlying23 rfl) rfl (by first | exact Rd.oV (((Kp.h hW).f2).aJ) (by omega) | exact Rd.CQ (((Kp.h hW).f2).aJ) (by omega) | exact Rd.BH (((Kp.h hW).f2).aJ) (by omega))) ?_
 refine Ls (fun acu Xp => ?_)
 refine fU 12 rfl qB rfl (iZ 13 rfl qB rfl (dU 14 rfl qB 2 underlying75 rfl sizeOf52 rfl (dU 15 rfl qB 4 underlying52 rfl sizeOf3 rfl (gG 16 rfl qB (fun W hW => iF underlying3 rfl ((Kp.h hW)).get.2 rfl) (jm 11 rfl (rX rfl func59 (kH Xo (fun W HW => (by rw [Xp]; exact (HW.f3).Ny (by omega))) (by omega))) ?_)))))
 rintro u5 w5 H5
 have sN := aA.kp (H5.f9.f9.f9.f9.f9.f9.f9.f9.f9)
 refine bU sN (fun W hW => (Kp.h hW).right.f8.f8.f8.f8.f8.f8.f8.f8) ?_
 refine gZ 17 rfl sN (fun _ => dJ (zl := [.slice none 0 0, .int .i64 0, .int .i64 0]) (pl := [(0, 1), (1, 1), (2, 1)]) [_, _, _] underlying41 zeroValue41 rfl (fun w => by kernel_rfl) rfl (.one (Rd.one ((H5).aJ)) (.one (by first | rfl | assumption) (.one (by first | rfl | assumption) .nil))) rfl) ?_
 refine dO 18 rfl (by kernel_rfl) (bC 0 (l' := [_, _, _]) (us := [_, _, _]) H5.f9 sizeOf41 rfl rfl rfl (aC (by first | rfl | exact Rd.one ((H5).aJ)) (aC (by first | rfl | assumption) (aC (by first | rfl | assumption) bg))) rfl rfl) ?_
 rintro _ w6 H6
 have zY := aA.kp (H6.f9.f9.f9.f9.f9.f9.f9.f9.f9)
 refine dS zY (by kernel_rfl) ?_
 refine mD (aj (aN ?_))
 refine kM (.inl rfl) (Fq results20 rfl underlying41 rfl (by rw [show (prog.info? 41).map (·.size) = some 3 from by kernel_rfl]; rfl) (H6).get.2) ?_
 have W9 := H6.f9.f9.f9.f9.f9.f9.f9
 have VN := aA.jf oH W9
 exact ⟨_, rfl, VN.f2.right.f2⟩
end
namespace bH
def Ai (s : bH) (place : Int) : bH := if s.c.place = place then s else s.vG place
def pU (s : bH) (place at_ : Int) : Bool := decide (at_ < 0 ∨ ((s.Ai place).c.L.length : Int) < at_)
def E5 (s : bH) (place at_ : Int) : Int := if s.c.place ≠ place ∧ s.lZ place ≠ 0 then s.lZ place else if s.pU place at_ then 6 else (s.Ai place).Gi at_
def E8 (s : bH) (place at_ : Int) : bH := if s.c.place ≠ place ∧ s.lZ place ≠ 0 then s else if s.pU place at_ then s.Ai place else (s.Ai place).xC at_
def Aj (s : bH) (place at_ : Int) : bH := if s.sQ ≠ 0 then s else (s.iq.E8 place at_).oC (s.iq.E5 place at_)
def Dw (s : bH) (place at_ : Int) : Int := if s.sQ ≠ 0 then s.sQ else (s.iq.E8 place at_).Bd (s.iq.E5 place at_)
end bH
section
variable {w0 w : World} {F : HP} {p n n0 e old box : Nat} {S : SS} {s : bH} {v lv Iz pv qv uv : Value} {us ws : List Value} {l : List Int} {back : Bool} {at_ place : Int} {t u : Ol}
theorem KT (H : aA w0 w (dN e s • F)) (hT : tu w0) (hR : sV s.c.L) : fQ prog 68 #[.pointer (some ⟨e, 0, none⟩), .int .i64 place, .int .i64 at_] w fun v w' => v = .int .i64 (s.E5 place at_) ∧ aA w0 w' (dN e (s.E8 place at_) • F) := by
 refine iw func68 ntmps68 ?_
 dsimp only [aZ, Nat.reduceAdd]
 refine ay (ah (aW rfl (aB (aj ?_))))
 refine sZ [(0, _), (2, _)] (fun (_ : Unit) => []) (fun (_ : Unit) W => (¬ (s.c.place ≠ place ∧ s.lZ place ≠ 0)) ∧ aA w0 W (dN e (s.Ai place) • F)) (Sub.cons rfl (Sub.cons rfl (Sub.nil _))) ?_ ?_
 ·rintro _ w1 ⟨hn1, HJ⟩
  dsimp only [List.cons_append, List.nil_append]
  refine ay (ay (ah (aP rfl (aU (dV rfl rfl) (jL rfl (fun h1 => ?_) (fun h1 => ?_))))))
  ·(try simp only [aG] at h1)
   refine bK (bK (bK (bK (bK (bK (jP rfl rfl (aB (aj (Dj (ay (ah (aW rfl (aB (aj (aN (aK (aT (.inl rfl) results68 rfl ?_)))))))))))))))))
   have hb : s.pU place at_ = true := by unfold bH.pU; exact decide_eq_true (by omega)
   exact ⟨by unfold bH.E5; rw [if_neg hn1, if_pos hb], by unfold bH.E8; rw [if_neg hn1, if_pos hb]; exact HJ⟩
  ·(try simp only [aG] at h1)
   refine bn (aP rfl (bn (aP rfl (bn (dD rfl func32 (BZ HJ) ?_)))))
   rintro _ w2 ⟨u2, rfl, H2⟩
   refine bn (aU (qA 0 underlying41 rfl rfl (bG underlying23 rfl) rfl rfl) (bn (aU (gK ((H2).aJ) underlying23 rfl) ?_)))
   have XJ := H2.right
   refine bn (aU (gU rfl rfl) (jd rfl rfl (aB (aj (aO rfl (fun h2 => ?_) (fun h2 => ?_))))))
   ·(try simp only [aG] at h2)
    have hb : s.pU place at_ = true := by unfold bH.pU; exact decide_eq_true (by omega)
    refine ay (ah (aW rfl (aB (aj (aN (aK (aT (.inl rfl) results68 rfl ?_)))))))
    have hb : s.pU place at_ = true := by unfold bH.pU; exact decide_eq_true (by omega)
    exact ⟨by unfold bH.E5; rw [if_neg hn1, if_pos hb], by unfold bH.E8; rw [if_neg hn1, if_pos hb]; exact XJ⟩
   ·(try simp only [aG] at h2)
    have hb : ¬ s.pU place at_ = true := by unfold bH.pU; rw [decide_eq_true_eq]; have h9 := h2; omega
    refine aQ (aj (ay (ah (aP rfl (aP rfl (dD rfl func40 (BX XJ) ?_))))))
    rintro _ w4 ⟨rfl, H4⟩
    refine aW rfl (aB (aj (aN (aT (.inl rfl) results68 rfl ?_))))
    exact ⟨by unfold bH.E5; rw [if_neg hn1, if_neg hb], by unfold bH.E8; rw [if_neg hn1, if_neg hb]; exact H4⟩
 ·skip
  refine ay (ah (aP rfl (dD rfl func16 (oD H) ?_)))
  rintro _ w5 ⟨u5, ks5, us5, sv5, rfl, H5⟩
  refine aU (qA 12 underlying44 rfl rfl (bG underlying3 rfl) rfl rfl) (aP rfl (aU (dG rfl rfl) ?_))
  have Hd6 := H5.right
  have Rx := Hd6.right
  have Z7 := Rx.right
  have Z5 := Z7.right
  refine aB (aj (aO rfl (fun h3 => ?_) (fun h3 => ?_)))
  ·(try simp only [aG] at h3)
   have hne : ¬ s.c.place = place := h3
   refine ay (ah (aP rfl (aP rfl (dD rfl func38 (Cj Z5 (by assumption) (by assumption)) ?_))))
   rintro _ w10 ⟨rfl, qK⟩
   refine aW rfl (aB (aj (ay (ah (aP rfl (aU (dG rfl rfl) (aB (aj (aO rfl (fun h4 => ?_) (fun h4 => ?_))))))))))
   ·(try simp only [aG] at h4)
    have hg : s.lZ place ≠ 0 := h4
    have hge : s.vG place = s := by unfold bH.vG; rw [if_neg hg]
    refine ay (ah (aP rfl (aW rfl (aB (aj (aN (aK (aT (.inl rfl) results68 rfl ?_))))))))
    exact ⟨by unfold bH.E5; rw [if_pos ⟨hne, hg⟩], by unfold bH.E8; rw [if_pos ⟨hne, hg⟩]; rw [hge] at qK; exact qK⟩
   ·(try simp only [aG] at h4)
    have hg : s.lZ place = 0 := by have h9 := h4; simpa using h9
    have ht : s.Ai place = s.vG place := by unfold bH.Ai; rw [if_neg hne]
    have hn1 : ¬ (s.c.place ≠ place ∧ s.lZ place ≠ 0) := fun c => c.2 hg
    have HX := qK
    rw [← ht] at HX
    refine aQ ?_
    refine dh (()) ?_ ?_ ?_
    ·exact (Sub.nil _)
    ·exact (Sub.cons rfl (Sub.cons rfl (Sub.nil _)))
    ·(try dsimp only)
     first | done | exact ⟨hn1, HX⟩
  ·(try simp only [aG] at h3)
   have heq : s.c.place = place := by have h9 := h3; simpa using h9
   have ht : s.Ai place = s := by unfold bH.Ai; rw [if_pos heq]
   have hn1 : ¬ (s.c.place ≠ place ∧ s.lZ place ≠ 0) := fun c => c.1 heq
   have HX := Z5
   rw [← ht] at HX
   refine aQ ?_
   refine dh (()) ?_ ?_ ?_
   ·exact (Sub.nil _)
   ·exact (Sub.cons rfl (Sub.cons rfl (Sub.nil _)))
   ·(try dsimp only)
    first | done | exact ⟨hn1, HX⟩
theorem FN (H : aA w0 w (dN e s • dZ p S • F)) (hT : tu w0) (hR : sV s.iq.c.L) : fQ prog 27 #[.pointer (some ⟨p, 0, none⟩), .pointer (some ⟨e, 0, none⟩)] w fun v w' => v = .int .i64 (s.Dw S.now.place S.now.at_) ∧ aA w0 w' (dN e (s.Aj S.now.place S.now.at_) • dZ p S • F) := by
 refine iw func27 ntmps27 ?_
 dsimp only [aZ, Nat.reduceAdd]
 refine ay (ah (aW rfl (aB (aj (ay (ay (ah (aP rfl (dD rfl func60 (qy H.f2) ?_)))))))))
 rintro _ _ ⟨rfl, rfl⟩
 refine aB (aj (pW (aQ (aj (ay (ay (ah (aP rfl (dD rfl func36 (rJ H) ?_)))))))))
 rintro _ w2 ⟨rfl, H2⟩
 refine aW rfl (aB (aj (ay (ah (aP rfl (aU (dG rfl rfl) (aB (aj (aO rfl (fun h1 => ?_) (fun h1 => ?_))))))))))
 ·(try simp only [aG] at h1)
  have hbe : s.sQ ≠ 0 := h1
  have hbs : s.iq = s := by unfold bH.iq bH.sQ at *; split at hbe <;> simp_all
  refine ay (ah (aP rfl (aW rfl (aB (aj (aN (aK (aT (.inl rfl) results27 rfl ?_))))))))
  exact ⟨by unfold bH.Dw; rw [if_pos hbe], by unfold bH.Aj; rw [if_pos hbe]; rw [hbs] at H2; exact H2.f2.f2⟩
 ·(try simp only [aG] at h1)
  have hbe : ¬ s.sQ ≠ 0 := by have h9 := h1; simpa using h9
  refine aQ (aj (ay ?_))
  obtain ⟨IB, Ag, IC, IE, IG, II, oH, ku⟩ := (H2.f2).search
  have Zv := ku.drew
  have vI := aA.kp (Zv.f8.f8.f8.f8.f8.f8.f8.f8)
  refine vJ [6, 11] vI rfl (fU 0 rfl vI rfl (fU 1 rfl vI rfl (fU 2 rfl vI rfl (iZ 3 rfl vI rfl (dU 4 rfl vI 2 underlying75 rfl sizeOf52 rfl (dU 5 rfl vI 3 underlying52 rfl sizeOf3 rfl (gG 6 rfl vI (fun W hW => iF underlying3 rfl ((Kp.h hW)).get.2 rfl) (fU 7 rfl vI rfl (iZ 8 rfl vI rfl (dU 9 rfl vI 2 underlying75 rfl sizeOf52 rfl (dU 10 rfl vI 4 underlying52 rfl sizeOf3 rfl (gG 11 rfl vI (fun W hW => iF underlying3 rfl ((Kp.h hW)).get.2 rfl) (jm 12 rfl (rX rfl func68 (KT Zv.f8 (by assumption) (by assumption))) ?_)))))))))))))
  rintro _ w4 ⟨rfl, H4⟩
  have uO := aA.kp (H4.f8.f8.f8.f8.f8.f8.f8.f8)
  refine dS uO (by kernel_rfl) ?_
  refine jm 13 rfl (rX rfl func37 (wH H4)) ?_
  rintro _ w5 ⟨rfl, H5⟩
  have sN := aA.kp (H5.f8.f8.f8.f8.f8.f8.f8.f8)
  refine dS sN (by kernel_rfl) ?_
  refine gZ 14 rfl sN (fun _ => eX rfl) (mD (aj (aN (aT (.inl rfl) results27 rfl ?_))))
  have Ru := H5.f8.f8.f8.f8.f8.f8.f8
  have Pj := aA.jf oH Ru
  exact ⟨by unfold bH.Dw; rw [if_neg hbe], by unfold bH.Aj; rw [if_neg hbe]; exact Pj.f2⟩
end
end Go.Proofs.YtddekefihgejoaaGreatDoor
end
section
namespace Go.Proofs.YtddekefihgejoaaGreatDoor
open Go.RowKit
open _root_.Go.Proofs.Tryz
def bH.qI (s : bH) (l : List Int) : Int := if s.inn then 1 else if 1024 < l.length then 3 else 0
def bH.IL (s : bH) (hl : List lg) (base most : Int) (l : List Int) : bH := if s.qI l = 0 then s.start hl base most l else s
theorem TD {s : bH} (h : kF s) (hi : s.inn = false) (hl : List lg) (base most : Int) (l : List Int) : kF (s.start hl base most l) := by
  obtain ⟨h1, h2, h3, h4, h5, h6⟩ := h
  refine ⟨J6 _ _ _ _ _, fun h => absurd (show s.inn = true from h) (by rw [hi]; decide), ⟨by show (-1 : Int) ≤ -1; decide, by show (-1 : Int) ≤ 1000000; decide⟩, h4, ?_, by simp [bH.start, lV.fresh]⟩
  show fB [] s.put ≤ 16384
  unfold fB at *; simp at *; omega
section
variable {w0 w : World} {F : HP} {e p h pr : Nat} {s : bH} {hl : List lg} {base most m : Int} {v : Value} {l : List Int}
theorem Ak (H : aA w0 w (dN e s • dn h hl base most • F)) (hr : gV w0 F .i32 v l) : fQ prog 35 #[.pointer (some ⟨e, 0, none⟩), .pointer (some ⟨h, 0, none⟩), v] w fun v' w' =>
  v' = .int .i64 (s.qI l) ∧ aA w0 w' (dN e (s.IL hl base most l) • dn h hl base most • F) := by
 unfold bH.IL
 refine iw func35 ntmps35 ?_
 dsimp only [aZ, Nat.reduceAdd]
 refine ay (ah (aW rfl (aB (aj (ay (aY (ay (ah (aP rfl (dD rfl func54 (qo H) ?_))))))))))
 rintro _ _ ⟨rfl, rfl⟩
 refine aP rfl (bn (aP rfl (bn (dD rfl func77 (og H.f2) ?_))))
 rintro _ w2 ⟨q2, rfl, H2⟩
 refine bn (aU (fO underlying65 rfl rfl) (jd rfl rfl (aW rfl (aB (aj (aO rfl (fun h => by exfalso; (try simp only [aG] at h); simp at h) (fun h1 => ?_)))))))
 (try simp only [aG] at h1)
 refine ay ?_
 have XJ := H2.right
 obtain ⟨qZ, ru, rC, rD, rE, rF, rG, rH, oL, mZ, ng, ni, ny, nC, nD, nG, nH, nI, nJ, nK, dL, bM, iC, eU⟩ := (XJ.f2).Ey
 refine ah (aP rfl (bT rfl (bf 16 underlying69 rfl sizeOf4 rfl (dA underlying4 rfl (eU).get.2 rfl (aW rfl (aB (aj (aO rfl (fun h2 => ?_) (fun h2 => ?_)))))))))
 ·(try simp only [aG] at h2)
  have hin := h2
  have hE : s.qI l = 1 := by unfold bH.qI; rw [if_pos hin]
  refine ay (ah (aW rfl (aB (aj (aN (aX (aK (aT (.inl rfl) results35 rfl ?_))))))))
  have Wj := eU.f11.f11.f11.f11.f11.f11.f11.f11.f11.f11.f11
  have Wn := aA.eG (s := s) dL bM Wj
  exact ⟨by rw [hE], by rw [if_neg (by rw [hE]; decide)]; exact Wn.f2.f2⟩
 ·(try simp only [aG] at h2)
  have hin : s.inn = false := by simpa using h2
  refine ay (ah (aP rfl (aU (gK (hr _ (eU.right.right.right.right.right.right.right.right.right.right.right.right)) underlying23 rfl) (aU (gU rfl rfl) (aW rfl (aB (aj (aO rfl (fun h3 => ?_) (fun h3 => ?_)))))))))
  ·(try simp only [aG] at h3)
   have hbig := h3
   have hE : s.qI l = 3 := by unfold bH.qI; rw [if_neg (by simp [hin]), if_pos (by omega)]
   refine ay (ah (aW rfl (aB (aj (aN (aX (aK (aT (.inl rfl) results35 rfl ?_))))))))
   have Ho9 := eU.f11.f11.f11.f11.f11.f11.f11.f11.f11.f11.f11
   have abH := aA.eG (s := s) dL bM Ho9
   exact ⟨by rw [hE], by rw [if_neg (by rw [hE]; decide)]; exact abH.f2.f2⟩
  ·(try simp only [aG] at h3)
   have hE : s.qI l = 0 := by unfold bH.qI; rw [if_neg (by simp [hin]), if_neg (by have h9 := h3; omega)]
   have hsh : l.length ≤ 1024 := by have h9 := h3; omega
   refine aQ (aH (aj (ay (ah (aP rfl (aP rfl (aP rfl (dD rfl func79 (yJ (E := s.c.E) (a := s.c.at_) eU.f2.right.f3.right.f3.right.f3.right.f3.right.f6.f6.f6.f6.f6.f7.f7 (fun W HW => hr W HW.right.right.right.right.right) hsh) ?_))))))))
   rintro _ IV ⟨qb, qw, qt, qm, qh, vK⟩
   refine aB (aj (ay (ah (aW rfl (aB (aj (aN (aT (.inl rfl) results35 rfl ?_))))))))
   exact ⟨by rw [hE], by rw [if_pos hE]; exact aA.eG (s := s.start hl base most l) (TD dL hin _ _ _ _) bM vK.f7.f12.f12.f12.f12.f11.f11.f11.f11.f12.f12.f12⟩
end
end Go.Proofs.YtddekefihgejoaaGreatDoor
end
section
namespace Go.Proofs.YtddekefihgejoaaGreatDoor
open Go.RowKit
open _root_.Go.Proofs.Tryz
namespace bH
variable (s : bH)
def Zw (k : Int) : bH := (s.iq.vG k).oC (s.iq.lZ k)
def abI (l : List Int) : bH := (s.iq.Pq l).oC (s.iq.RF l)
def Zx (x : Int) : bH := (s.iq.xC x).oC (s.iq.Gi x)
end bH
def Fa (l : List lg) (ln : List Int) : bH := (bH.new (F9 l) (Gf l) 4096).IL (F9 l) (Gf l) 4096 ln
def TF (l : List lg) (ln : List Int) (place : Int) (ty : List Int) (pt : Int) : bH := (((Fa l ln).Zw place).abI ty).Zx pt
theorem Vf {l : List lg} {ln : List Int} (h : ln.length ≤ 1024) : (Fa l ln).iq.c.L = ln := by
  have e : (bH.new (F9 l) (Gf l) 4096).qI ln = 0 := by unfold bH.qI; rw [if_neg (by rw [show (bH.new (F9 l) (Gf l) 4096).inn = false from rfl]; decide), if_neg (by omega)]
  unfold Fa bH.IL
  rw [if_pos e]
  rfl
theorem Fb (l : List lg) (ln : List Int) : (bH.new (F9 l) (Gf l) 4096).qI ln = if 1024 < ln.length then 3 else 0 := by
  unfold bH.qI; rw [if_neg (by rw [show (bH.new (F9 l) (Gf l) 4096).inn = false from rfl]; decide)]
section
variable {w0 w : World} {F : HP} {l : List lg} {hv lv tv : Value} {ln ty : List Int} {place pt : Int}
theorem GH (H : aA w0 w F) (q1 : Aq w0 F 2 hv l.length (l.flatMap iM)) (q2 : gV w0 F .i32 lv ln) (q3 : gV w0 F .i32 tv ty) (hb : l.length ≤ 5864062014805) (hm : qX l = 0) (hln : ln.length ≤ 1024) (hT : tu w0) (hRL : sV ln) :
  fQ prog 10 #[.agg #[hv, lv, .int .i64 place, tv, .int .i64 pt]] w fun v w' => ∃ e, v = .pointer (some ⟨e, 0, none⟩) ∧ aA w0 w' (dN e (TF l ln place ty pt) • F) := by
 have hR2 : sV (Fa l ln).iq.c.L := by rw [Vf hln]; exact hRL
 refine iw func10 ntmps10 ?_
 dsimp only [aZ, Nat.reduceAdd]
 refine ay (ah (gB (ig (l := [_, _, _, _, _]) H rfl rfl) ?_))
 rintro _ w1 ⟨b1, rfl, H1⟩
 refine aW rfl (aB (aj (ay (ah (bf 0 underlying26 rfl sizeOf24 rfl (dA underlying24 rfl (H1).get.2 rfl (dD rfl func33 (xk H1 (by decide) (fun W HW => q1 _ (HW.right)) hb hm) ?_)))))))
 rintro _ w2 ⟨p2, rfl, H2⟩
 refine aP rfl (wQ rfl rfl (wQ rfl rfl (aW rfl (aW rfl (aB (aj (ay (ay (ah (aP rfl (aU (dG rfl rfl) (aB (aj (aO rfl (fun h => by exfalso; (try simp only [aG] at h); simp at h) (fun h1 => ?_)))))))))))))))
 (try simp only [aG] at h1)
 refine aQ (aj (ay (ah (aP rfl (dD rfl func34 (EH H2) ?_)))))
 rintro _ w3 ⟨e3, rfl, H3⟩
 refine aP rfl (wQ rfl rfl (wQ rfl rfl (aW rfl (aW rfl (aB (aj (ay (ay (ah (aP rfl (aU (dG rfl rfl) (jL rfl (fun h => by exfalso; (try simp only [aG] at h); simp at h) (fun h2 => ?_)))))))))))))
 (try simp only [aG] at h2)
 refine bn (aP rfl (bn (aU (fO underlying30 rfl rfl) (jd rfl rfl (jL rfl (fun h => by exfalso; (try simp only [aG] at h); simp at h) (fun h3 => ?_))))))
 (try simp only [aG] at h3)
 refine bn (aP rfl (bn (aP rfl (bn (bf 1 underlying26 rfl sizeOf23 rfl (bn (dA underlying23 rfl (H3.f3).get.2 rfl (bn (dD rfl func35 (Ak H3.f2.f2 (fun W HW => q2 _ (HW.right))) ?_)))))))))
 rintro _ w4 ⟨rfl, H4⟩
 refine bn (aU (dG rfl rfl) (jd rfl rfl (aB (aj (aO rfl (fun h => by exfalso; (try simp only [aG] at h); have h9 := Fb l ln; rw [if_neg (by omega)] at h9; exact h h9) (fun h4 => ?_))))))
 (try simp only [aG] at h4)
 refine aQ (aj (ay (ah (aP rfl (dD rfl func36 (rJ (s := Fa l ln) H4) ?_)))))
 rintro _ w5 ⟨rfl, H5⟩
 refine aB (aj (ay (ah (aP rfl (aP rfl (bf 2 underlying26 rfl sizeOf3 rfl (dA underlying3 rfl (H5.f3).get.2 rfl (dD rfl func38 (Cj H5 (by assumption) (by assumption)) ?_))))))))
 rintro _ w6 ⟨rfl, H6⟩
 refine dD rfl func37 (wH H6) ?_
 rintro _ w7 ⟨rfl, H7⟩
 refine aB (aj (ay (ah (aP rfl (dD rfl func36 (rJ H7) ?_)))))
 rintro _ w8 ⟨rfl, H8⟩
 refine aB (aj (ay (ah (aP rfl (aP rfl (bf 3 underlying26 rfl sizeOf23 rfl (dA underlying23 rfl (H8.f3).get.2 rfl (dD rfl func39 (FH H8 (fun W HW => q3 _ (HW.right.right))) ?_))))))))
 rintro _ w9 ⟨rfl, H9⟩
 refine dD rfl func37 (wH H9) ?_
 rintro _ w10 ⟨rfl, qK⟩
 refine aB (aj (ay (ah (aP rfl (dD rfl func36 (rJ qK) ?_)))))
 rintro _ IV ⟨rfl, vK⟩
 refine aB (aj (ay (ah (aP rfl (aP rfl (bf 4 underlying26 rfl sizeOf3 rfl (dA underlying3 rfl (vK.f3).get.2 rfl (dD rfl func40 (BX vK) ?_))))))))
 rintro _ w12 ⟨rfl, vM⟩
 refine dD rfl func37 (wH vM) ?_
 rintro _ OY ⟨rfl, xq⟩
 refine aB (aj (ay (ah (aP rfl (aW rfl (aB (aj (aN (aT (.inl rfl) results10 rfl ?_)))))))))
 exact ⟨_, rfl, xq.f2.right.f2.right⟩
theorem P6 (H : aA w0 w F) (q1 : Aq w0 F 2 hv l.length (l.flatMap iM)) (hb : l.length ≤ 5864062014805) (hm : qX l ≠ 0) :
  fQ prog 10 #[.agg #[hv, lv, .int .i64 place, tv, .int .i64 pt]] w fun v w' => v = .pointer none ∧ aA w0 w' F := by
 refine iw func10 ntmps10 ?_
 dsimp only [aZ, Nat.reduceAdd]
 refine ay (ah (gB (ig (l := [_, _, _, _, _]) H rfl rfl) ?_))
 rintro _ w1 ⟨b1, rfl, H1⟩
 refine aW rfl (aB (aj (ay (ah (bf 0 underlying26 rfl sizeOf24 rfl (dA underlying24 rfl (H1).get.2 rfl (dD rfl func33 (Fz H1 (by decide) (fun W HW => q1 _ (HW.right)) hb hm) ?_)))))))
 rintro _ w2 ⟨rfl, H2⟩
 refine aP rfl (wQ rfl rfl (wQ rfl rfl (aW rfl (aW rfl (aB (aj (ay (ay (ah (aP rfl (aU (dG rfl rfl) (aB (aj (aO rfl (fun h1 => ?_) (fun h => by exfalso; (try simp only [aG] at h); exact hm h)))))))))))))))
 (try simp only [aG] at h1)
 refine ay (ah (aW rfl (aB (aj (aN (aK (aT (.inl rfl) results10 rfl ?_)))))))
 exact ⟨rfl, H2.right⟩
theorem P7 (H : aA w0 w F) (q1 : Aq w0 F 2 hv l.length (l.flatMap iM)) (q2 : gV w0 F .i32 lv ln) (hb : l.length ≤ 5864062014805) (hm : qX l = 0) (hln : 1024 < ln.length) :
  fQ prog 10 #[.agg #[hv, lv, .int .i64 place, tv, .int .i64 pt]] w fun v w' => v = .pointer none ∧ aA w0 w' F := by
 refine iw func10 ntmps10 ?_
 dsimp only [aZ, Nat.reduceAdd]
 refine ay (ah (gB (ig (l := [_, _, _, _, _]) H rfl rfl) ?_))
 rintro _ w1 ⟨b1, rfl, H1⟩
 refine aW rfl (aB (aj (ay (ah (bf 0 underlying26 rfl sizeOf24 rfl (dA underlying24 rfl (H1).get.2 rfl (dD rfl func33 (xk H1 (by decide) (fun W HW => q1 _ (HW.right)) hb hm) ?_)))))))
 rintro _ w2 ⟨p2, rfl, H2⟩
 refine aP rfl (wQ rfl rfl (wQ rfl rfl (aW rfl (aW rfl (aB (aj (ay (ay (ah (aP rfl (aU (dG rfl rfl) (aB (aj (aO rfl (fun h => by exfalso; (try simp only [aG] at h); simp at h) (fun h1 => ?_)))))))))))))))
 (try simp only [aG] at h1)
 refine aQ (aj (ay (ah (aP rfl (dD rfl func34 (EH H2) ?_)))))
 rintro _ w3 ⟨e3, rfl, H3⟩
 refine aP rfl (wQ rfl rfl (wQ rfl rfl (aW rfl (aW rfl (aB (aj (ay (ay (ah (aP rfl (aU (dG rfl rfl) (jL rfl (fun h => by exfalso; (try simp only [aG] at h); simp at h) (fun h2 => ?_)))))))))))))
 (try simp only [aG] at h2)
 refine bn (aP rfl (bn (aU (fO underlying30 rfl rfl) (jd rfl rfl (jL rfl (fun h => by exfalso; (try simp only [aG] at h); simp at h) (fun h3 => ?_))))))
 (try simp only [aG] at h3)
 refine bn (aP rfl (bn (aP rfl (bn (bf 1 underlying26 rfl sizeOf23 rfl (bn (dA underlying23 rfl (H3.f3).get.2 rfl (bn (dD rfl func35 (Ak H3.f2.f2 (fun W HW => q2 _ (HW.right))) ?_)))))))))
 rintro _ w4 ⟨rfl, H4⟩
 refine bn (aU (dG rfl rfl) (jd rfl rfl (aB (aj (aO rfl (fun h4 => ?_) (fun h => by exfalso; (try simp only [aG] at h); have h9 := Fb l ln; rw [if_pos (by omega)] at h9; exact absurd (h9.symm.trans h) (by decide)))))))
 (try simp only [aG] at h4)
 refine ay (ah (aW rfl (aB (aj (aN (aK (aT (.inl rfl) results10 rfl ?_)))))))
 exact ⟨rfl, H4.right.right.right⟩
end
end Go.Proofs.YtddekefihgejoaaGreatDoor
end
section
namespace Go.Proofs.YtddekefihgejoaaGreatDoor
open Go.RowKit
structure Out (s : bH) (L : List Int) (pt : Int) (G : List (List fG)) (run : Bool) : Prop where
  inn : s.inn = false
  L : s.c.L = L
  pt : s.c.pt = pt
  G : s.c.un s.c.place = G
  run : s.c.run = run
  over : s.c.over = false
structure VT (s : bH) (L : List Int) (pt : Int) (G : List (List fG)) (run : Bool) : Prop where
  inn : s.inn = true
  L : s.c.L = L
  pt : s.c.pt = pt
  G : s.c.un s.c.place = G
  run : s.c.run = run
  over : s.c.over = false
  put : s.put = []
  cls : s.cls = 0
  whole : s.whole = true
section
variable {s : bH} {L : List Int} {pt : Int} {G : List (List fG)} {run : Bool} {r : Int}
theorem Out.begin (h : Out s L pt G run) : VT s.iq L pt G run ∧ s.sQ = 0 := by
  unfold bH.iq bH.sQ
  rw [if_neg (by rw [h.inn]; decide), if_neg (by rw [h.inn]; decide)]
  exact ⟨⟨rfl, h.L, h.pt, h.G, h.run, h.over, rfl, rfl, rfl⟩, rfl⟩
def TG (G : List (List fG)) (run : Bool) (x : fG) : List (List fG) := if run then (match G.getLast? with | some g => G.dropLast ++ [g ++ [x]] | none => [[x]]) else G ++ [[x]]
theorem VT.VU (h : VT s L pt G run) (h1 : 0 ≤ pt ∧ pt ≤ L.length) (h2 : L.length < 1024) (h3 : fB G [] < 16384) :
    s.RG [r] = 0 ∧ s.yG [r] = { (s.jS (L.take pt.toNat ++ [r] ++ L.drop pt.toNat) (pt + 1) (qN L s.c.mark pt pt [r])) with put := [(pt, [], [r])], cls := 3 } := by
  have hto : s.Bf [r] = pt := by unfold bH.Bf; rw [h.over]; exact h.pt
  have hE : kQ L pt pt [r] = 0 := by unfold kQ; rw [if_neg (by omega), if_neg (by simp; omega)]
  have hE' : s.o8 s.c.pt (s.Bf [r]) [r] = 0 := by unfold bH.o8; rw [if_pos h.inn, hto, h.pt, h.L]; exact hE
  have hP : qM L pt pt pt [r] = pt + 1 := by unfold qM bI; rw [if_pos hE, if_neg (by omega), if_pos (by omega)]; rfl
  have hD : kD L pt pt [r] = [] := by unfold kD; rw [if_pos hE]; simp
  have hI : kE L pt pt [r] = [r] := by unfold kE; rw [if_pos hE]
  have hA : qg L pt pt [r] = pt := by unfold qg; rw [if_pos hE]
  have hL : qL L pt pt [r] = L.take pt.toNat ++ [r] ++ L.drop pt.toNat := by unfold qL; rw [if_pos hE]
  have hS : s.tN s.c.pt (s.Bf [r]) [r] = { (s.jS (L.take pt.toNat ++ [r] ++ L.drop pt.toNat) (pt + 1) (qN L s.c.mark pt pt [r])) with put := [(pt, [], [r])] } := by
    unfold bH.tN
    rw [if_pos h.inn, hto, h.pt, h.L, hP, hD, hI, hA, hL]
    unfold bH.yF
    rw [if_neg (by simp), if_neg (by
      show ¬ 16384 ≤ fB (s.c.un s.c.place) s.put
      rw [h.G, h.put]; omega)]
    show _ = _
    unfold bH.jS
    simp only [h.put, List.nil_append]
  refine ⟨hE', ?_⟩
  unfold bH.yG
  rw [if_pos h.inn]
  dsimp only
  rw [if_pos ⟨hE', h.cls⟩, hS]
theorem TI (u : bH) (h : u.inn = true) : (u.oC 0).c.L = u.c.L := by by_cases ha : u.argues = true <;> by_cases hp : u.put = [] <;> by_cases hc : u.cls = 2 <;> simp [bH.oC, bH.lH, bH.gX, bH.dF, bH.zU, bH.oz, bH.jW, bH.here, iL, ha, hp, hc, h]
theorem Ot (u : bH) (h : u.inn = true) : (u.oC 0).c.pt = u.c.pt := by by_cases ha : u.argues = true <;> by_cases hp : u.put = [] <;> by_cases hc : u.cls = 2 <;> simp [bH.oC, bH.lH, bH.gX, bH.dF, bH.zU, bH.oz, bH.jW, bH.here, iL, ha, hp, hc, h]
theorem GI (u : bH) (h : u.inn = true) : (u.oC 0).c.over = u.c.over := by by_cases ha : u.argues = true <;> by_cases hp : u.put = [] <;> by_cases hc : u.cls = 2 <;> simp [bH.oC, bH.lH, bH.gX, bH.dF, bH.zU, bH.oz, bH.jW, bH.here, iL, ha, hp, hc, h]
theorem KU (u : bH) (h : u.inn = true) : (u.oC 0).inn = false := by by_cases ha : u.argues = true <;> by_cases hp : u.put = [] <;> by_cases hc : u.cls = 2 <;> simp [bH.oC, bH.lH, bH.gX, bH.dF, bH.zU, bH.oz, bH.jW, bH.here, iL, ha, hp, hc, h]
theorem KW (u : bH) (h : u.inn = true) : (u.oC 0).c.run = (u.typed && (!u.put.isEmpty || u.c.run)) := by by_cases ha : u.argues = true <;> by_cases hp : u.put = [] <;> by_cases hc : u.cls = 2 <;> simp [bH.oC, bH.lH, bH.gX, bH.dF, bH.zU, bH.oz, bH.jW, bH.here, iL, ha, hp, hc, h]
theorem Ou (u : bH) (h : u.inn = true) : (u.oC 0).c.un (u.oC 0).c.place = u.jW (u.typed && u.c.run) := by by_cases ha : u.argues = true <;> by_cases hp : u.put = [] <;> by_cases hc : u.cls = 2 <;> simp [bH.oC, bH.lH, bH.gX, bH.dF, bH.zU, bH.oz, bH.jW, bH.here, iL, ha, hp, hc, h]
theorem VT.typed (h : VT s L pt G run) (h1 : 0 ≤ pt ∧ pt ≤ L.length) (h2 : L.length < 1024) (h3 : fB G [] < 16384) :
    Out ((s.yG [r]).oC 0) (L.take pt.toNat ++ [r] ++ L.drop pt.toNat) (pt + 1) (TG G run (pt, [], [r])) true ∧ (s.yG [r]).Bd 0 = 0 := by
  obtain ⟨_, e⟩ := h.VU (r := r) h1 h2 h3
  have hu : (s.yG [r]).inn = true := by rw [e]; exact h.inn
  have hT : (s.yG [r]).typed = true := by rw [e]; show (((3 : Int) == 3) && s.whole) = true; rw [h.whole]; rfl
  have hp : (s.yG [r]).put = [(pt, [], [r])] := by rw [e]
  have hr : (s.yG [r]).c.run = run := by rw [e]; exact h.run
  have hh : (s.yG [r]).here = G := by rw [e]; exact h.G
  refine ⟨⟨KU _ hu, (TI _ hu).trans (by rw [e]; rfl), (Ot _ hu).trans (by rw [e]; rfl), ?_, ?_, (GI _ hu).trans (by rw [e]; exact h.over)⟩, by unfold bH.Bd; rw [if_pos hu]⟩
  · rw [Ou _ hu, hT, hr, Bool.true_and]
    unfold bH.jW TG
    rw [if_neg (by rw [hp]; simp), hp, hh] <;> rfl
  · rw [KW _ hu, hT, hp]; rfl
def TJ (s : bH) (r : Int) : bH := (s.iq.yG [r]).oC (s.iq.RG [r])
theorem Out.TJ (h : Out s L pt G run) (h1 : 0 ≤ pt ∧ pt ≤ L.length) (h2 : L.length < 1024) (h3 : fB G [] < 16384) :
    Out (TJ s r) (L.take pt.toNat ++ [r] ++ L.drop pt.toNat) (pt + 1) (TG G run (pt, [], [r])) true := by
  unfold Go.Proofs.YtddekefihgejoaaGreatDoor.TJ
  rw [(h.begin.1.VU (r := r) h1 h2 h3).1]
  exact (h.begin.1.typed h1 h2 h3).1
theorem P8 (hi : s.inn = true) (hL : s.c.L = L) (hpt : s.c.pt = pt) (hG : s.here = G) (ho : s.c.over = false) (hp : s.put = []) (hc : s.cls = 0) : Out (s.oC 0) L pt G false := by
  have hT : s.typed = false := by unfold bH.typed; rw [hc]; rfl
  refine ⟨KU _ hi, (TI _ hi).trans hL, (Ot _ hi).trans hpt, ?_, ?_, (GI _ hi).trans ho⟩
  · rw [Ou _ hi]; unfold bH.jW; rw [if_pos hp]; exact hG
  · rw [KW _ hi, hT]; rfl
theorem VT.end_ (h : VT s L pt G run) : Out (s.oC 0) L pt G false := P8 h.inn h.L h.pt h.G h.over h.put h.cls
theorem Out.move (h : Out s L pt G run) (x : Int) (hx : 0 ≤ x ∧ x ≤ L.length) : Out ((s.iq.xC x).oC 0) L x G false := by
  have hb := h.begin.1
  refine VT.end_ (s := s.iq.xC x) (run := run) ?_
  unfold bH.xC
  rw [if_pos hb.inn]
  refine ⟨hb.inn, hb.L, ?_, hb.G, hb.run, hb.over, hb.put, hb.cls, hb.whole⟩
  show Vt s.iq.c.L.length s.iq.c.pt x = x
  unfold Vt
  rw [if_pos (by rw [hb.L]; omega)]
end
end Go.Proofs.YtddekefihgejoaaGreatDoor
end
section
namespace Go.Proofs.YtddekefihgejoaaGreatDoor
open Go.RowKit
open _root_.Go.Proofs.Tryz
def P9 : List lg := [(⟨#[109, 97, 107, 101]⟩, 0), (⟨#[108, 115]⟩, 0)]
def yw : bH := TF P9 [] 2 [] 0
theorem Qa : yw.saved = [] := by
  have h0 : pO P9 yw.c.tx 2 0 = false := by unfold pO fE; rw [show yw.c.tx ((0 : Nat) : Int) = none from rfl]; simp [tK]
  have h1 : pO P9 yw.c.tx 2 1 = false := by unfold pO fE; rw [show yw.c.tx ((1 : Nat) : Int) = none from rfl]; simp [tK]
  show lG P9 yw.c.tx 2 = []
  unfold lG jM
  rw [if_neg (by decide), List.append_nil, show List.range P9.length = [0, 1] from rfl, List.filter_cons_of_neg (by rw [h0]; decide), List.filter_cons_of_neg (by rw [h1]; decide)]
  rfl
theorem Qb : yw.lines = [[109, 97, 107, 101], [108, 115], []] := by unfold bH.lines; rw [Qa]; kernel_rfl
def Nk : SS := .start yw.lines [] true yw.c.place yw.c.pt
theorem Nl : Nk = .start [[109, 97, 107, 101], [108, 115], []] [] true 2 0 := by unfold Nk; rw [Qb]; rfl
theorem TK : Nk.lU [109] = 0 := by rw [Nl]; rfl
theorem Bz : (Nk.lT [109]).now.place = 0 := by rw [Nl]; rfl
theorem TL : (Nk.lT [109]).now.at_ = 0 := by rw [Nl]; rfl
theorem KX : yw.Dw 0 0 = 0 := by rfl
theorem KY : (yw.Aj 0 0).c.L = [109, 97, 107, 101] := by rfl
theorem TM : (utf8 (yw.Aj 0 0).c.L).toList = (ByteArray.mk #[109, 97, 107, 101]).toList := by rw [KY]; exact congrArg ByteArray.toList (by rfl)
section
variable {w0 w : World} {F : HP}
theorem GK (H : aA w0 w F) (hT : tu w0) : fQ prog 9 #[] w fun v w' => v = .bool true ∧ aA w0 w' F := by
 have hR9 : sV yw.iq.c.L := fun n hn => by cases hn
 refine iw func9 ntmps9 ?_
 dsimp only [aZ, Nat.reduceAdd]
 refine ay (ah (aW rfl (aB (aj (ay (ah ?_))))))
 refine aU (dJ (zl := [.string .empty, .int .i64 0]) (pl := [(0, 1), (1, 1)]) [_, _] underlying84 zeroValue84 rfl (fun w => by kernel_rfl) rfl (.one (by first | rfl | assumption) (.zero (zs := [.int .i64 0]) rfl .nil)) rfl) ?_
 refine aU (dJ (zl := [.string .empty, .int .i64 0]) (pl := [(0, 1), (1, 1)]) [_, _] underlying84 zeroValue84 rfl (fun w => by kernel_rfl) rfl (.one (by first | rfl | assumption) (.zero (zs := [.int .i64 0]) rfl .nil)) rfl) ?_
 refine gB (OU H underlying24 sizeOf84 zeroValue84 rfl rfl rfl rfl rfl (by decide) (by decide)) ?_
 rintro l1 w1 H1
 refine aU (dJ (zl := [.slice none 0 0, .slice none 0 0, .int .i64 0, .slice none 0 0, .int .i64 0]) (pl := [(0, 1), (1, 1), (2, 1), (3, 1), (4, 1)]) [_, _, _, _, _] underlying26 zeroValue26 rfl (fun w => by kernel_rfl) rfl (.one (Rd.one ((H1).aJ)) (.zero (zs := [.slice none 0 0]) rfl (.one (by first | rfl | assumption) (.zero (zs := [.slice none 0 0]) rfl (.zero (zs := [.int .i64 0]) rfl .nil))))) rfl) ?_
 refine dD rfl func10 (GH (l := P9) (ln := []) (ty := []) H1 (fun W HW => HW.aJ) (fun W _ => iI.nil W _ none 0 (by decide)) (fun W _ => iI.nil W _ none 0 (by decide)) (by decide) (by rfl) (by decide) hT (fun n hn => by cases hn)) ?_
 rintro _ w2 ⟨e2, rfl, H2⟩
 have XJ := H2.f2.right
 refine aW rfl (aB (aj (ay (ay (ah (aP rfl (aU (fO underlying30 rfl rfl) (aB (aj (aO rfl (fun h => by exfalso; (try simp only [aG] at h); simp at h) (fun h1 => ?_)))))))))))
 (try simp only [aG] at h1)
 refine aQ (aj (ay (ah (aP rfl (dD rfl func17 (EX (s := yw) XJ (fun W _ => iI.nil W _ none 0 (by decide)) (l := []) (by decide) hT) ?_)))))
 rintro _ w4 ⟨p4, rfl, H4⟩
 refine aP rfl (wQ rfl rfl (wQ rfl rfl (aW rfl (aW rfl (aB (aj (ay (ah (aP rfl (aU (DI underlying46 rfl rfl) (jL rfl (fun h2 => ?_) (fun h => by exfalso; (try simp only [aG] at h); simp at h))))))))))))
 (try simp only [aG] at h2)
 refine bn (aP rfl (bn (aU (iQ rfl rfl) (jP rfl rfl (jL rfl (fun h3 => ?_) (fun h => by exfalso; (try simp only [aG] at h); simp at h))))))
 (try simp only [aG] at h3)
 refine bn (aP rfl (bn (gB (fV (k := .i32) (l := [109]) H4 underlying23 sizeOf21 zeroValue21 rfl rfl rfl (by decide)) ?_)))
 rintro l5 w5 H5
 refine bn (dD rfl func18 (y9 (S := Nk) H5.f2 (fun W HW => (HW).aJ) (l := [109]) (by decide) (by decide)) ?_)
 rintro _ w6 ⟨rfl, H6⟩
 refine bn (aU (iQ rfl rfl) (jP rfl rfl (jL rfl (fun h4 => ?_) (fun h => by exfalso; (try simp only [aG] at h); exact h TK))))
 (try simp only [aG] at h4)
 refine bn (aP rfl (bn (dD rfl func19 (wL H6) ?_)))
 rintro _ w7 ⟨u7, rfl, H7⟩
 refine bn (aU (qA 3 underlying52 rfl rfl (bG underlying3 rfl) rfl rfl) (bn (aU (iQ rfl rfl) (jP rfl rfl (jL rfl (fun h5 => ?_) (fun h => by exfalso; (try simp only [aG] at h); exact h Bz))))))
 (try simp only [aG] at h5)
 refine bn (aP rfl (bn (aP rfl (bn (dD rfl func27 (FN (s := yw) (S := Nk.lT [109]) H7.f2.f4 hT hR9) ?_)))))
 rintro _ w8 ⟨rfl, H8⟩
 refine bn (aU (iQ rfl rfl) (jP rfl rfl (jL rfl (fun h6 => ?_) (fun h => by exfalso; (try simp only [aG] at h); rw [Bz, TL] at h; exact h KX))))
 (try simp only [aG] at h6)
 refine bn (aP rfl (bn (dD rfl func32 (BZ H8) ?_)))
 rintro _ w9 ⟨u9, rfl, H9⟩
 refine bn (aU (qA 0 underlying41 rfl rfl (bG underlying23 rfl) rfl rfl) (bn (aU (Jb underlying23 underlying9 underlying21 rfl ((H9).aJ)) (bn ?_))))
 refine aU (Az (OC rfl rfl) (by rw [Bz, TL]; exact beq_iff_eq.2 TM)) ?_
 refine jP rfl rfl (aW rfl (aB (aj (aN (aT (.inl rfl) results9 rfl ?_)))))
 exact ⟨rfl, H9.right.right.right.right.right⟩
end
end Go.Proofs.YtddekefihgejoaaGreatDoor
end
section
namespace Go.Proofs.YtddekefihgejoaaGreatDoor
open Go.RowKit
open _root_.Go.Proofs.Tryz
section
variable {L : List (Nat × Value)} {w : World} {x y : Operand} {ty : TypeId}
theorem IQ {c : Int × ByteArray} (hx : ev L x = some (.agg (lC c).toArray)) (hy : ev L y = some (.agg (lC c).toArray)) : Val prog L (.binOp .neq 106 x y 106) ty w (.bool false) w := fun ρ hρ _ _ _ _ => by
  simp only [execOp, hρ _ _ hx, hρ _ _ hy]
  have h0 : (eqGuard .neq 106 x y (.agg (lC c).toArray) (.agg (lC c).toArray)).run prog w = .ok () w := run_eqGuard_agg w .neq _ x y _ _ (by kernel_rfl)
  have hf : prog.underlying 106 = some (.struct (prog.fieldsOf 106)) := by kernel_rfl
  have hp : prog.stoodInHeld 106 = false := by kernel_rfl
  have hfs : ((prog.fieldsOf 106).toList.map fun f => (f.name, f.type, f.offset)) = [("At", 3, 0), ("Text", 9, 1)] := by kernel_rfl
  have h1 : (Op.eqFields 9999 (lC c).toArray (lC c).toArray (prog.fieldsOf 106).toList).run prog w = .ok true w := by
    generalize (prog.fieldsOf 106).toList = fs at hfs
    match fs, hfs with
    | [], hfs | [_], hfs | _ :: _ :: _ :: _, hfs => simp at hfs
    | [f1, f2], hfs =>
      simp only [List.map_cons, List.map_nil, List.cons.injEq, Prod.mk.injEq, and_true] at hfs
      obtain ⟨⟨n1, t1, o1⟩, n2, t2, o2⟩ := hfs
      have p1 : jC prog 9 = true := bG underlying9 rfl
      have p2 : jC prog 3 = true := bG underlying3 rfl
      have Ov : ∀ (e : TypeId) (xs : Array Value) (off : Nat) (v : Value), jC prog e = true → xs[off]? = some v → (part e xs off).run prog w = .ok v w := fun e xs off v h1 h2 => by simp [part, vO h1, h2]
      have st : ∀ (f : Field) (e : TypeId) (off : Nat) (u v : Value) (r : Bool) (rest : List Field), f.name ≠ "_" → f.type = e → f.offset = off → jC prog e = true → (lC c).toArray[off]? = some u → (lC c).toArray[off]? = some v → (Op.equalIn 9999 e u v).run prog w = .ok r w →
          (Op.eqFields 9999 (lC c).toArray (lC c).toArray (f :: rest)).run prog w = if r then (Op.eqFields 9999 (lC c).toArray (lC c).toArray rest).run prog w else .ok false w := fun f e off u v r rest hn ht ho hp h1 h2 h3 => by
        subst ht ho
        rw [Op.eqFields, if_pos hn, Sem.run_bind, Ov _ _ _ _ hp h1, Result.andThen_ok, Sem.run_bind, Ov _ _ _ _ hp h2, Result.andThen_ok, Sem.run_bind, h3, Result.andThen_ok]
        cases r
        · simp
        · simp
      rw [st f1 _ _ _ _ _ _ (by rw [n1]; decide) t1 o1 p2 rfl rfl (run_equalIn_int w 9998 3 .i64 .i64 c.1 c.1 underlying3),
        st f2 _ _ _ _ _ _ (by rw [n2]; decide) t2 o2 p1 rfl rfl (run_equalIn_string w 9998 9 c.2 c.2 underlying9)]
      simp [Op.eqFields]
  have h2 := run_neq_struct (P := prog) w 106 (lC c).toArray (lC c).toArray
  rw [run_equalIn_agg w 9999 _ _ _ hf hp, h1] at h2
  simp [h0, h2]
end
end Go.Proofs.YtddekefihgejoaaGreatDoor
end
section
namespace Go.Proofs.YtddekefihgejoaaGreatDoor
open Go.RowKit
def TN (v : Value) (pt mk : Int) : Array Value := #[v, .int .i64 pt, .int .i64 mk]
def abJ (p : Nat) (L : List Int) (pt mk : Int) : HP := qC fun (v : Value) => fact (L.length ≤ 1024 ∧ (0 ≤ pt ∧ pt ≤ L.length) ∧ (-1 ≤ mk ∧ mk ≤ L.length)) • cO p (.cells (TN v pt mk) 170 (0, 0)) • gW 21 .i32 v L
section
variable {w0 w : World} {F : HP} {p : Nat} {L : List Int} {pt mk : Int} {v : Value} {l : List Int} {i j : Int}
end
end Go.Proofs.YtddekefihgejoaaGreatDoor
end
section
namespace Go.Proofs.YtddekefihgejoaaGreatDoor
open Go.RowKit
open _root_.Go.Proofs.Tryz
section
variable {w0 w : World} {F : HP} {p : Nat} {L : List Int} {pt mk x : Int} {v : Value} {l : List Int}
theorem FP {u u' : Value} (H : aA w0 w F) (g1 : gV w0 F .i32 u l) (g2 : gV w0 F .i32 u' l) : fQ prog 64 #[.agg (jy u pt mk), .agg (jy u' pt mk)] w fun v w' => v = .bool true ∧ aA w0 w' F := by
 refine iw func64 ntmps64 ?_
 dsimp only [aZ, Nat.reduceAdd]
 refine ay (ah (gB (I9 H rfl) ?_))
 rintro _ w1 ⟨b1, rfl, H1⟩
 refine gB (I9 H1 rfl) ?_
 rintro _ w2 ⟨b2, rfl, H2⟩
 refine aW rfl (aB (aj (ay ?_)))
 have HB : aA w0 w2 (cO b2 (.cells (jy u' pt mk) 41 (0, 0)) • cO b1 (.cells (jy u pt mk) 41 (0, 0)) • F) := H2
 refine ah (bf 0 underlying41 rfl sizeOf23 rfl (dA underlying23 rfl HB.swap.get.2 rfl (bf 0 underlying41 rfl sizeOf23 rfl (dA underlying23 rfl HB.get.2 rfl (dD rfl func65 (JB _ _ _ l (g1 _ HB.right.right) (g2 _ HB.right.right)) ?_)))))
 rintro _ w3 ⟨rfl, hD1⟩
 have Zy := HB.wM hD1
 refine aP rfl (bn (bf 1 underlying41 rfl sizeOf3 rfl (bn (dA underlying3 rfl Zy.swap.get.2 rfl (bn (bf 1 underlying41 rfl sizeOf3 rfl (bn (dA underlying3 rfl Zy.get.2 rfl (bn ?_)))))))))
 refine aU (Az (iQ rfl rfl) (by first | (rw [decide_eq_true_eq]; omega) | (rw [decide_eq_false_iff_not]; omega) | (rw [beq_iff_eq]; omega) | (rw [beq_eq_false_iff_ne]; omega) | (rw [bne_iff_ne]; omega) | (rw [bne_eq_false_iff_eq]; omega) | (simp; done) | (simp; omega))) ?_
 refine jP rfl rfl (aP rfl (bn (bf 2 underlying41 rfl sizeOf3 rfl (bn (dA underlying3 rfl Zy.swap.get.2 rfl (bn (bf 2 underlying41 rfl sizeOf3 rfl (bn (dA underlying3 rfl Zy.get.2 rfl (bn ?_))))))))))
 refine aU (Az (iQ rfl rfl) (by first | (rw [decide_eq_true_eq]; omega) | (rw [decide_eq_false_iff_not]; omega) | (rw [beq_iff_eq]; omega) | (rw [beq_eq_false_iff_ne]; omega) | (rw [bne_iff_ne]; omega) | (rw [bne_eq_false_iff_eq]; omega) | (simp; done) | (simp; omega))) ?_
 refine jP rfl rfl (aW rfl (aB (aj (aN (aT (.inl rfl) results64 rfl ?_)))))
 exact ⟨rfl, Zy.right.right⟩
end
end Go.Proofs.YtddekefihgejoaaGreatDoor
end
section
namespace Go.Proofs.YtddekefihgejoaaGreatDoor
open Go.RowKit
open _root_.Go.Proofs.Tryz
structure StM where
  pt : Int
  mrk : Int
  mode : Int
  over : Bool
  given : Bool
  minus : Bool
  arg : Int
  last : Int
  fr : Int
  to : Int
  place : Int
  Zz : Int
  res : Int
  ql : Int
def Xq (x : StM) (u ks sv : Value) : List Value := [u, .int .i64 x.pt, .int .i64 x.mrk, .int .i64 x.mode, .bool x.over, .bool x.given, .bool x.minus, .int .i64 x.arg, .int .i64 x.last, .int .i64 x.fr, .int .i64 x.to, ks, .int .i64 x.place, sv, .int .i64 x.Zz, .int .i64 x.res, .int .i64 x.ql]
theorem Ox (x : Int × ByteArray) : (lC x).length = 2 := rfl
section
variable {w0 w : World} {F : HP} {x : StM} {u z ks qs sv tv : Value} {l : List Int} {ls : List (List Int)} {us vs : List Value} {S : List (Int × ByteArray)}
theorem Fe (H : aA w0 w F) (g1 : gV w0 F .i32 u l) (g2 : gV w0 F .i32 z l) (k1 : Aq w0 F 1 ks ls.length us) (k2 : Aq w0 F 1 qs ls.length vs)
  (e1 : ∀ k, k < ls.length → gV w0 F .i32 (us.getD k undef) (ls.getD k [])) (e2 : ∀ k, k < ls.length → gV w0 F .i32 (vs.getD k undef) (ls.getD k []))
  (s1 : Aq w0 F 2 sv S.length (S.flatMap lC)) (s2 : Aq w0 F 2 tv S.length (S.flatMap lC)) :
  fQ prog 23 #[.agg (Xq x u ks sv).toArray, .agg (Xq x z qs tv).toArray] w fun v' w' => v' = .bool true ∧ aA w0 w' F := by
 have hb1 : (ls.length : Int) ≤ 9223372036854775807 := by obtain ⟨_, a, c, _, h1, h2, _⟩ := k1 w H; omega
 have hb2 : (S.length : Int) ≤ 9223372036854775807 := by obtain ⟨_, a, c, _, h1, h2, _⟩ := s1 w H; omega
 unfold Xq
 refine iw func23 ntmps23 ?_
 dsimp only [aZ, Nat.reduceAdd]
 refine ay (ah (gB (ig (l := [_, _, _, _, _, _, _, _, _, _, _, _, _, _, _, _, _]) H rfl rfl) ?_))
 rintro _ w1 ⟨b1, rfl, H1⟩
 refine gB (ig (l := [_, _, _, _, _, _, _, _, _, _, _, _, _, _, _, _, _]) H1 rfl rfl) ?_
 rintro _ w2 ⟨b2, rfl, H2⟩
 refine aW rfl (aB (aj (ay (ay (ah (bf 0 underlying44 rfl sizeOf41 rfl (aU (kY 0 (xs := [_, _, _]) underlying41 rfl sizeOf41 rfl rfl (H2.f2).get.2 rfl) (bf 0 underlying44 rfl sizeOf41 rfl (aU (kY 0 (xs := [_, _, _]) underlying41 rfl sizeOf41 rfl rfl (H2).get.2 rfl) (dD rfl func64 (FP (l := l) (pt := x.pt) (mk := x.mrk) H2 (fun W HW => g1 _ (HW.right.right)) (fun W HW => g2 _ (HW.right.right))) ?_))))))))))
 rintro _ w3 ⟨rfl, H3⟩
 refine aU (jT rfl) (jL rfl (fun h => by exfalso; (try simp only [aG] at h); simp at h) (fun h1 => ?_))
 (try simp only [aG] at h1)
 refine bn (bf 3 underlying44 rfl sizeOf3 rfl (bn (dA underlying3 rfl (H3.f2).get.2 rfl (bn (bf 3 underlying44 rfl sizeOf3 rfl (bn (dA underlying3 rfl (H3).get.2 rfl (bn (aU (dG rfl rfl) (jd rfl rfl (jL rfl (fun h => by exfalso; (try simp only [aG] at h); simp at h) (fun h2 => ?_))))))))))))
 (try simp only [aG] at h2)
 refine bn (bf 4 underlying44 rfl sizeOf4 rfl (bn (dA underlying4 rfl (H3.f2).get.2 rfl (bn (bf 4 underlying44 rfl sizeOf4 rfl (bn (dA underlying4 rfl (H3).get.2 rfl (bn (aU (yM underlying4 rfl rfl) (jd rfl rfl (jL rfl (fun h => by exfalso; (try simp only [aG] at h); simp at h) (fun h3 => ?_))))))))))))
 (try simp only [aG] at h3)
 refine bn (bf 5 underlying44 rfl sizeOf4 rfl (bn (dA underlying4 rfl (H3.f2).get.2 rfl (bn (bf 5 underlying44 rfl sizeOf4 rfl (bn (dA underlying4 rfl (H3).get.2 rfl (bn (aU (yM underlying4 rfl rfl) (jd rfl rfl (jL rfl (fun h => by exfalso; (try simp only [aG] at h); simp at h) (fun h4 => ?_))))))))))))
 (try simp only [aG] at h4)
 refine bn (bf 6 underlying44 rfl sizeOf4 rfl (bn (dA underlying4 rfl (H3.f2).get.2 rfl (bn (bf 6 underlying44 rfl sizeOf4 rfl (bn (dA underlying4 rfl (H3).get.2 rfl (bn (aU (yM underlying4 rfl rfl) (jd rfl rfl (jL rfl (fun h => by exfalso; (try simp only [aG] at h); simp at h) (fun h5 => ?_))))))))))))
 (try simp only [aG] at h5)
 refine bn (bf 7 underlying44 rfl sizeOf3 rfl (bn (dA underlying3 rfl (H3.f2).get.2 rfl (bn (bf 7 underlying44 rfl sizeOf3 rfl (bn (dA underlying3 rfl (H3).get.2 rfl (bn (aU (dG rfl rfl) (jd rfl rfl (jL rfl (fun h => by exfalso; (try simp only [aG] at h); simp at h) (fun h6 => ?_))))))))))))
 (try simp only [aG] at h6)
 refine bn (bf 8 underlying44 rfl sizeOf3 rfl (bn (dA underlying3 rfl (H3.f2).get.2 rfl (bn (bf 8 underlying44 rfl sizeOf3 rfl (bn (dA underlying3 rfl (H3).get.2 rfl (bn (aU (dG rfl rfl) (jd rfl rfl (jL rfl (fun h => by exfalso; (try simp only [aG] at h); simp at h) (fun h7 => ?_))))))))))))
 (try simp only [aG] at h7)
 refine bn (bf 9 underlying44 rfl sizeOf3 rfl (bn (dA underlying3 rfl (H3.f2).get.2 rfl (bn (bf 9 underlying44 rfl sizeOf3 rfl (bn (dA underlying3 rfl (H3).get.2 rfl (bn (aU (dG rfl rfl) (jd rfl rfl (jL rfl (fun h => by exfalso; (try simp only [aG] at h); simp at h) (fun h8 => ?_))))))))))))
 (try simp only [aG] at h8)
 refine bn (bf 10 underlying44 rfl sizeOf3 rfl (bn (dA underlying3 rfl (H3.f2).get.2 rfl (bn (bf 10 underlying44 rfl sizeOf3 rfl (bn (dA underlying3 rfl (H3).get.2 rfl (bn (aU (dG rfl rfl) (jd rfl rfl (jL rfl (fun h => by exfalso; (try simp only [aG] at h); simp at h) (fun h9 => ?_))))))))))))
 (try simp only [aG] at h9)
 refine bn (bf 11 underlying44 rfl sizeOf22 rfl (bn (dA underlying22 rfl (H3.f2).get.2 rfl (bn (aU (eY (k1 _ (H3.right.right)) underlying22 rfl) (bn (bf 11 underlying44 rfl sizeOf22 rfl (bn (dA underlying22 rfl (H3).get.2 rfl (bn (aU (eY (k2 _ (H3.right.right)) underlying22 rfl) (bn (aU (dG rfl rfl) (jd rfl rfl (aB (aj (aO rfl (fun h => by exfalso; (try simp only [aG] at h); simp at h) (fun h10 => ?_))))))))))))))))))
 (try simp only [aG] at h10)
 refine aQ (aj (ay (ay (ah (aW rfl (aB (aj (aY ?_))))))))
 refine eP [(2, _), (3, _)] (fun (k : Nat) => [(5, .int .i64 (k : Int))]) (fun (k : Nat) W => k ≤ ls.length ∧ aA w0 W (cO b1 (.cells (Xq x u ks sv).toArray 44 (0, 0)) • cO b2 (.cells (Xq x z qs tv).toArray 44 (0, 0)) • F)) (fun (k : Nat) => ls.length - k) (0) (Sub.cons rfl (Sub.cons rfl (Sub.nil _))) (Sub.cons rfl (Sub.nil _)) ⟨by omega, H3.f2⟩ ?_
 rintro k w4 ⟨hk, HL⟩
 dsimp only [List.cons_append, List.nil_append]
 refine ay (ay (ah (aP rfl (bf 11 underlying44 rfl sizeOf22 rfl (dA underlying22 rfl (HL).get.2 rfl (aU (eY (k1 _ (HL.right.right)) underlying22 rfl) (aU (dV rfl rfl) (aB (aj (aO rfl (fun h11 => ?_) (fun h11 => ?_)))))))))))
 ·(try simp only [aG] at h11)
  have hkl : k < ls.length := by have h9 := h11; omega
  refine aQ (aj (ay (aY (ay ?_))))
  have Qc := HL.drew
  have xM := aA.kp (Qc.f2.f2)
  refine vJ [1, 4, 6, 9] xM rfl (dU 0 rfl xM 11 underlying44 rfl sizeOf22 rfl (gG 1 rfl xM (fun W hW => iF underlying22 rfl ((Kp.h hW)).get.2 rfl) (fU 2 rfl xM rfl ?_)))
  obtain ⟨bks, oks, cks, eks⟩ := Rd.kN (k1 _ (Qc.right.right)) (by omega)
  cases eks
  refine gZ 3 rfl xM (fun _ => bV underlying22 sizeOf23 rfl rfl (by omega)) ?_
  refine gG 4 rfl xM (fun W hW => dB (bG underlying23 rfl) rfl (by first | exact Rd.oV (k1 _ ((Kp.h hW).right.right)) (by omega) | exact Rd.CQ (k1 _ ((Kp.h hW).right.right)) (by omega) | exact Rd.BH (k1 _ ((Kp.h hW).right.right)) (by omega))) ?_
  refine Ls (fun acv Xt => ?_)
  refine dU 5 rfl xM 11 underlying44 rfl sizeOf22 rfl (gG 6 rfl xM (fun W hW => iF underlying22 rfl ((Kp.h hW).f2).get.2 rfl) (fU 7 rfl xM rfl ?_))
  obtain ⟨bqs, oqs, cqs, eqs⟩ := Rd.kN (k2 _ (Qc.right.right)) (by omega)
  cases eqs
  refine gZ 8 rfl xM (fun _ => bV underlying22 sizeOf23 rfl rfl (by omega)) ?_
  refine gG 9 rfl xM (fun W hW => dB (bG underlying23 rfl) rfl (by first | exact Rd.oV (k2 _ ((Kp.h hW).right.right)) (by omega) | exact Rd.CQ (k2 _ ((Kp.h hW).right.right)) (by omega) | exact Rd.BH (k2 _ ((Kp.h hW).right.right)) (by omega))) ?_
  refine Ls (fun acw Xu => ?_)
  refine jm 10 rfl (rX rfl func65 (JA _ _ _ _ _ ((by rw [Xt]; exact e1 _ (by omega) _ (Qc.right.right))) ((by rw [Xu]; exact e2 _ (by omega) _ (Qc.right.right))))) ?_
  rintro _ w7 ⟨rfl, hD7⟩
  have HD7 := Qc.wM hD7
  have vY := aA.kp (HD7.f2.f2)
  refine dS vY (by kernel_rfl) ?_
  refine gZ 11 rfl vY (fun _ => jT rfl) (mD (aj (aO rfl (fun h => by exfalso; (try simp only [aG] at h); simp at h) (fun h12 => ?_))))
  (try simp only [aG] at h12)
  refine aQ (aH (aj (ah (aP rfl (aU (dR rfl rfl (by omega)) (aW rfl (aB ?_)))))))
  refine bZ (k + 1) ?_ ?_ ?_ ?_
  ·exact (Sub.cons rfl (Sub.nil _))
  ·exact (Sub.cons rfl (Sub.cons rfl (Sub.nil _)))
  ·(try dsimp only)
   first | done | exact ⟨by omega, HD7.f2.f2⟩
  ·(try dsimp only); omega
 ·(try simp only [aG] at h11)
  refine dK (aV (aV (bD (aj (ay (ay (ah (bf 12 underlying44 rfl sizeOf3 rfl (dA underlying3 rfl (HL).get.2 rfl (bf 12 underlying44 rfl sizeOf3 rfl (dA underlying3 rfl (HL.f2).get.2 rfl (aU (dG rfl rfl) (jL rfl (fun h => by exfalso; (try simp only [aG] at h); simp at h) (fun h13 => ?_))))))))))))))
  (try simp only [aG] at h13)
  refine bn (bf 13 underlying44 rfl sizeOf42 rfl (bn (dA underlying42 rfl (HL).get.2 rfl (bn (aU (eY (s1 _ (HL.right.right)) underlying42 rfl) (bn (bf 13 underlying44 rfl sizeOf42 rfl (bn (dA underlying42 rfl (HL.f2).get.2 rfl (bn (aU (eY (s2 _ (HL.right.right)) underlying42 rfl) (bn (aU (dG rfl rfl) (jd rfl rfl (jL rfl (fun h => by exfalso; (try simp only [aG] at h); simp at h) (fun h14 => ?_))))))))))))))))
  (try simp only [aG] at h14)
  refine bn (bf 14 underlying44 rfl sizeOf3 rfl (bn (dA underlying3 rfl (HL).get.2 rfl (bn (bf 14 underlying44 rfl sizeOf3 rfl (bn (dA underlying3 rfl (HL.f2).get.2 rfl (bn (aU (dG rfl rfl) (jd rfl rfl (jL rfl (fun h => by exfalso; (try simp only [aG] at h); simp at h) (fun h15 => ?_))))))))))))
  (try simp only [aG] at h15)
  refine bn (bf 15 underlying44 rfl sizeOf3 rfl (bn (dA underlying3 rfl (HL).get.2 rfl (bn (bf 15 underlying44 rfl sizeOf3 rfl (bn (dA underlying3 rfl (HL.f2).get.2 rfl (bn (aU (dG rfl rfl) (jd rfl rfl (jL rfl (fun h => by exfalso; (try simp only [aG] at h); simp at h) (fun h16 => ?_))))))))))))
  (try simp only [aG] at h16)
  refine bn (bf 16 underlying44 rfl sizeOf2 rfl (bn (dA underlying2 rfl (HL).get.2 rfl (bn (bf 16 underlying44 rfl sizeOf2 rfl (bn (dA underlying2 rfl (HL.f2).get.2 rfl (bn (aU (dG rfl rfl) (jd rfl rfl (aB (aj (aO rfl (fun h => by exfalso; (try simp only [aG] at h); simp at h) (fun h17 => ?_))))))))))))))
  (try simp only [aG] at h17)
  refine aQ (aj (ay (ay (ah (aW rfl (aB (aj (aY ?_))))))))
  refine eP [(2, _), (3, _)] (fun (k2 : Nat) => [(6, .int .i64 (k2 : Int))]) (fun (k2 : Nat) W => k2 ≤ S.length ∧ aA w0 W (cO b1 (.cells (Xq x u ks sv).toArray 44 (0, 0)) • cO b2 (.cells (Xq x z qs tv).toArray 44 (0, 0)) • F)) (fun (k2 : Nat) => S.length - k2) (0) (Sub.cons rfl (Sub.cons rfl (Sub.nil _))) (Sub.cons rfl (Sub.nil _)) ⟨by omega, HL.f2.f2⟩ ?_
  rintro k2 w8 ⟨hk2, HL2⟩
  dsimp only [List.cons_append, List.nil_append]
  refine ay (ay (ah (aP rfl (bf 13 underlying44 rfl sizeOf42 rfl (dA underlying42 rfl (HL2).get.2 rfl (aU (eY (s1 _ (HL2.right.right)) underlying42 rfl) (aU (dV rfl rfl) (aB (aj (aO rfl (fun h18 => ?_) (fun h18 => ?_)))))))))))
  ·(try simp only [aG] at h18)
   have hkl2 : k2 < S.length := by have h9 := h18; omega
   refine aQ (aj (ay (aY (ay ?_))))
   have Oy := HL2.drew
   have qJ := aA.kp (Oy.f2.f2)
   refine vJ [1, 4, 6, 9] qJ rfl (dU 0 rfl qJ 13 underlying44 rfl sizeOf42 rfl (gG 1 rfl qJ (fun W hW => iF underlying42 rfl ((Kp.h hW)).get.2 rfl) (fU 2 rfl qJ rfl ?_)))
   obtain ⟨bsv, osv, csv, esv⟩ := Rd.kN (s1 _ (Oy.right.right)) (by omega)
   cases esv
   refine gZ 3 rfl qJ (fun _ => bV underlying42 sizeOf106 rfl rfl (by omega)) (gG 4 rfl qJ (fun W hW => iG (ys := [_, _]) (s1 _ ((Kp.h hW).right.right)) (by omega) underlying106 rfl sizeOf106 rfl (jw Ox (by omega) default) rfl) (dU 5 rfl qJ 13 underlying44 rfl sizeOf42 rfl (gG 6 rfl qJ (fun W hW => iF underlying42 rfl ((Kp.h hW).f2).get.2 rfl) (fU 7 rfl qJ rfl ?_))))
   obtain ⟨btv, otv, ctv, etv⟩ := Rd.kN (s2 _ (Oy.right.right)) (by omega)
   cases etv
   refine gZ 8 rfl qJ (fun _ => bV underlying42 sizeOf106 rfl rfl (by omega)) (gG 9 rfl qJ (fun W hW => iG (ys := [_, _]) (s2 _ ((Kp.h hW).right.right)) (by omega) underlying106 rfl sizeOf106 rfl (jw Ox (by omega) default) rfl) (gZ 10 rfl qJ (fun _ => IQ rfl rfl) (mD (aj (aO rfl (fun h => by exfalso; (try simp only [aG] at h); simp at h) (fun h19 => ?_))))))
   (try simp only [aG] at h19)
   refine aQ (aH (aj (ah (aP rfl (aU (dR rfl rfl (by omega)) (aW rfl (aB ?_)))))))
   refine bZ (k2 + 1) ?_ ?_ ?_ ?_
   ·exact (Sub.cons rfl (Sub.nil _))
   ·exact (Sub.cons rfl (Sub.cons rfl (Sub.nil _)))
   ·(try dsimp only)
    first | done | exact ⟨by omega, Oy.f2.f2⟩
   ·(try dsimp only); omega
  ·(try simp only [aG] at h18)
   refine dK (aV (aV (bD (aj (ay (ah (aW rfl (aB (aj (aN (aT (.inl rfl) results23 rfl ?_)))))))))))
   exact ⟨rfl, HL2.right.right⟩
end
end Go.Proofs.YtddekefihgejoaaGreatDoor
end
