import Derived.Test.YtddekefihgejoaaGreatDoorZ2
import Derived.Test.YtddekefihgejoaaGreatDoorZ18
import Derived.Test.YtddekefihgejoaaGreatDoorZ11
import Derived.Test.YtddekefihgejoaaGreatDoorZ9
import Derived.Test.YtddekefihgejoaaGreatDoorZ7
import Derived.Test.YtddekefihgejoaaGreatDoorZ13
import Derived.Test.YtddekefihgejoaaGreatDoorZ12
set_option linter.unusedSimpArgs false
set_option linter.unusedVariables false
/- Texts of mine, joined, their names in short: IsD EdSt HistF IsMade ETyM IsBegun. -/
section
namespace Go.Proofs.YtddekefihgejoaaGreatDoor
open Go.RowKit
open _root_.Go.Proofs.Tryz
section
variable {w0 w : World} {F : HP} {p n n0 e old box : Nat} {S : SS} {s : bH} {v lv LM pv qv uv : Value} {us ws : List Value} {l : List Int} {back : Bool} {at_ place : Int} {t u : O9}
theorem Hy (H : aB w0 w (iL p S • F)) : gG prog 19 #[.pointer (some ⟨p, 0, none⟩)] w fun v w' => ∃ u, v = .agg (Ht u S.now S.L.length).toArray ∧ aB w0 w' (iD 21 .i32 u S.now.pat • iL p S • F) := by
 refine iF func19 ntmps19 ?_
 dsimp only [bg, Nat.reduceAdd]
 refine ay (ah (iw (cZ (l := [_, _, _, _, _, _]) H zeroValue52 rfl) ?_))
 rintro _ w1 ⟨b1, rfl, H1⟩
 refine aA (aj (ay (ay (ah (aI rfl (dH rfl func60 (wR H1.f2) ?_))))))
 rintro _ _ ⟨rfl, rfl⟩
 refine aA (aj (nY (aO (aj (ay ?_)))))
 obtain ⟨LQ, Ew, LU, LV, LW, LX, tZ, oN⟩ := (H1.f2).search
 have hpl := tZ.2.1
 refine ah (aI rfl (bQ rfl (bC 2 underlying75 rfl sizeOf52 rfl (aU (pq 2 (xs := [_, _, _, _, _, _]) underlying52 rfl sizeOf52 rfl rfl (oN).get.2 rfl) (iw (cZ (l := [_, _, _, _, _, _]) oN zeroValue52 rfl) ?_)))))
 rintro _ w4 ⟨b4, rfl, H4⟩
 refine aJ (bG 0 (l' := [_, _, _, _, _, _]) (us := [_, _, _, _, _, _]) H4 sizeOf52 rfl rfl rfl (aC (by first | rfl | exact Rd.one ((H4.f6).jH)) (aC (by first | rfl | assumption) (aC (by first | rfl | assumption) (aC (by first | rfl | assumption) (aC (by first | rfl | assumption) (aC (by first | rfl | assumption) bn)))))) rfl rfl) ?_
 rintro _ w5 H5
 refine aA (aj (ay (ah (bC 0 underlying52 rfl sizeOf23 rfl (eu underlying23 rfl (H5).get.2 rfl (dH rfl func59 (kW H5 (fun W HW => (HW.f6).jH) (by omega)) ?_))))))
 rintro u6 w6 H6
 refine bC 0 underlying52 rfl sizeOf23 rfl (aJ (aS 0 (l' := [_, _, _, _, _, _]) H6.f2 sizeOf23 rfl rfl (by first | rfl | exact Rd.one ((H6).aT)) rfl rfl) ?_)
 rintro _ w7 H7
 refine aA (aj (ay (ah (aU (bV underlying52 rfl sizeOf52 rfl rfl (H7).get.2) (aJ (bG 0 (l' := [_, _, _, _, _, _]) (us := [_, _, _, _, _, _]) H7.f10 sizeOf52 rfl rfl rfl (aC (by first | rfl | exact Rd.one ((H7.f2).aT)) (aC (by first | rfl | assumption) (aC (by first | rfl | assumption) (aC (by first | rfl | assumption) (aC (by first | rfl | assumption) (aC (by first | rfl | assumption) bn)))))) rfl rfl) ?_)))))
 rintro _ w8 H8
 refine aA (aj (aK ?_))
 refine kM (.inl rfl) (Gl results19 rfl underlying52 rfl (by rw [show (prog.info? 52).map (·.size) = some 6 from by kernel_rfl]; rfl) (H8).get.2) ?_
 have Qw := H8.f10.f10.f10.f10.f10.f10.f10
 have Qx := aB.kF tZ Qw
 exact ⟨_, rfl, Qx.f2.right.f2.right.f2⟩
end
namespace bH
def zJ (s : bH) (place : Int) : bH := if s.c.place = place then s else s.uU place
def oZ (s : bH) (place at_ : Int) : Bool := decide (at_ < 0 ∨ ((s.zJ place).c.L.length : Int) < at_)
def Ez (s : bH) (place at_ : Int) : Int := if s.c.place ≠ place ∧ s.lS place ≠ 0 then s.lS place else if s.oZ place at_ then 6 else (s.zJ place).FC at_
def EC (s : bH) (place at_ : Int) : bH := if s.c.place ≠ place ∧ s.lS place ≠ 0 then s else if s.oZ place at_ then s.zJ place else (s.zJ place).wM at_
def zK (s : bH) (place at_ : Int) : bH := if s.rO ≠ 0 then s else (s.gX.EC place at_).nV (s.gX.Ez place at_)
def CU (s : bH) (place at_ : Int) : Int := if s.rO ≠ 0 then s.rO else (s.gX.EC place at_).Aj (s.gX.Ez place at_)
end bH
section
variable {w0 w : World} {F : HP} {p n n0 e old box : Nat} {S : SS} {s : bH} {v lv LM pv qv uv : Value} {us ws : List Value} {l : List Int} {back : Bool} {at_ place : Int} {t u : O9}
theorem JX (H : aB w0 w (dO e s • F)) (hT : rZ w0) (hR : tV s.c.L) : gG prog 68 #[.pointer (some ⟨e, 0, none⟩), .int .i64 place, .int .i64 at_] w fun v w' => v = .int .i64 (s.Ez place at_) ∧ aB w0 w' (dO e (s.EC place at_) • F) := by
 refine iF func68 ntmps68 ?_
 dsimp only [bg, Nat.reduceAdd]
 refine ay (ah (aW rfl (aA (aj ?_))))
 refine lT [(0, _), (2, _)] (fun (_ : Unit) => []) (fun (_ : Unit) W => (¬ (s.c.place ≠ place ∧ s.lS place ≠ 0)) ∧ aB w0 W (dO e (s.zJ place) • F)) (Sub.cons rfl (Sub.cons rfl (Sub.nil _))) ?_ ?_
 ·rintro _ w1 ⟨hn1, HJ⟩
  dsimp only [List.cons_append, List.nil_append]
  refine ay (ay (ah (aI rfl (aU (dB rfl rfl) (iM rfl (fun h1 => ?_) (fun h1 => ?_))))))
  ·(try simp only [aG] at h1)
   refine aZ (aZ (aZ (aZ (aZ (aZ (fK rfl rfl (aA (aj (zM (ay (ah (aW rfl (aA (aj (aK (aN (aQ (.inl rfl) results68 rfl ?_)))))))))))))))))
   have hb : s.oZ place at_ = true := by unfold bH.oZ; exact decide_eq_true (by omega)
   exact ⟨by unfold bH.Ez; rw [if_neg hn1, if_pos hb], by unfold bH.EC; rw [if_neg hn1, if_pos hb]; exact HJ⟩
  ·(try simp only [aG] at h1)
   refine aY (aI rfl (aY (aI rfl (aY (dH rfl func32 (Bv HJ) ?_)))))
   rintro _ w2 ⟨u2, rfl, H2⟩
   refine aY (aU (sS 0 underlying41 rfl rfl (bU underlying23 rfl) rfl rfl) (aY (aU (eG ((H2).aT) underlying23 rfl) ?_)))
   have WO := H2.right
   refine aY (aU (fB rfl rfl) (fC rfl rfl (aA (aj (aP rfl (fun h2 => ?_) (fun h2 => ?_))))))
   ·(try simp only [aG] at h2)
    have hb : s.oZ place at_ = true := by unfold bH.oZ; exact decide_eq_true (by omega)
    refine ay (ah (aW rfl (aA (aj (aK (aN (aQ (.inl rfl) results68 rfl ?_)))))))
    have hb : s.oZ place at_ = true := by unfold bH.oZ; exact decide_eq_true (by omega)
    exact ⟨by unfold bH.Ez; rw [if_neg hn1, if_pos hb], by unfold bH.EC; rw [if_neg hn1, if_pos hb]; exact WO⟩
   ·(try simp only [aG] at h2)
    have hb : ¬ s.oZ place at_ = true := by unfold bH.oZ; rw [decide_eq_true_eq]; have h9 := h2; omega
    refine aO (aj (ay (ah (aI rfl (aI rfl (dH rfl func40 (Bq WO) ?_))))))
    rintro _ w4 ⟨rfl, H4⟩
    refine aW rfl (aA (aj (aK (aQ (.inl rfl) results68 rfl ?_))))
    exact ⟨by unfold bH.Ez; rw [if_neg hn1, if_neg hb], by unfold bH.EC; rw [if_neg hn1, if_neg hb]; exact H4⟩
 ·skip
  refine ay (ah (aI rfl (dH rfl func16 (vS H) ?_)))
  rintro _ w5 ⟨u5, ks5, us5, sv5, rfl, H5⟩
  refine aU (sS 12 underlying44 rfl rfl (bU underlying3 rfl) rfl rfl) (aI rfl (aU (gy rfl rfl) ?_))
  have Hd6 := H5.right
  have TK := Hd6.right
  have Za := TK.right
  have Y9 := Za.right
  refine aA (aj (aP rfl (fun h3 => ?_) (fun h3 => ?_)))
  ·(try simp only [aG] at h3)
   have hne : ¬ s.c.place = place := h3
   refine ay (ah (aI rfl (aI rfl (dH rfl func38 (BG Y9 (by assumption) (by assumption)) ?_))))
   rintro _ w10 ⟨rfl, qL⟩
   refine aW rfl (aA (aj (ay (ah (aI rfl (aU (gy rfl rfl) (aA (aj (aP rfl (fun h4 => ?_) (fun h4 => ?_))))))))))
   ·(try simp only [aG] at h4)
    have hg : s.lS place ≠ 0 := h4
    have hge : s.uU place = s := by unfold bH.uU; rw [if_neg hg]
    refine ay (ah (aI rfl (aW rfl (aA (aj (aK (aN (aQ (.inl rfl) results68 rfl ?_))))))))
    exact ⟨by unfold bH.Ez; rw [if_pos ⟨hne, hg⟩], by unfold bH.EC; rw [if_pos ⟨hne, hg⟩]; rw [hge] at qL; exact qL⟩
   ·(try simp only [aG] at h4)
    have hg : s.lS place = 0 := by have h9 := h4; simpa using h9
    have ht : s.zJ place = s.uU place := by unfold bH.zJ; rw [if_neg hne]
    have hn1 : ¬ (s.c.place ≠ place ∧ s.lS place ≠ 0) := fun c => c.2 hg
    have HX := qL
    rw [← ht] at HX
    refine aO ?_
    refine bF (()) ?_ ?_ ?_
    ·exact (Sub.nil _)
    ·exact (Sub.cons rfl (Sub.cons rfl (Sub.nil _)))
    ·(try dsimp only)
     first | done | exact ⟨hn1, HX⟩
  ·(try simp only [aG] at h3)
   have heq : s.c.place = place := by have h9 := h3; simpa using h9
   have ht : s.zJ place = s := by unfold bH.zJ; rw [if_pos heq]
   have hn1 : ¬ (s.c.place ≠ place ∧ s.lS place ≠ 0) := fun c => c.1 heq
   have HX := Y9
   rw [← ht] at HX
   refine aO ?_
   refine bF (()) ?_ ?_ ?_
   ·exact (Sub.nil _)
   ·exact (Sub.cons rfl (Sub.cons rfl (Sub.nil _)))
   ·(try dsimp only)
    first | done | exact ⟨hn1, HX⟩
theorem EW (H : aB w0 w (dO e s • iL p S • F)) (hT : rZ w0) (hR : tV s.gX.c.L) : gG prog 27 #[.pointer (some ⟨p, 0, none⟩), .pointer (some ⟨e, 0, none⟩)] w fun v w' => v = .int .i64 (s.CU S.now.place S.now.at_) ∧ aB w0 w' (dO e (s.zK S.now.place S.now.at_) • iL p S • F) := by
 refine iF func27 ntmps27 ?_
 dsimp only [bg, Nat.reduceAdd]
 refine ay (ah (aW rfl (aA (aj (ay (ay (ah (aI rfl (dH rfl func60 (wR H.f2) ?_)))))))))
 rintro _ _ ⟨rfl, rfl⟩
 refine aA (aj (nY (aO (aj (ay (ay (ah (aI rfl (dH rfl func36 (qI H) ?_)))))))))
 rintro _ w2 ⟨rfl, H2⟩
 refine aW rfl (aA (aj (ay (ah (aI rfl (aU (gy rfl rfl) (aA (aj (aP rfl (fun h1 => ?_) (fun h1 => ?_))))))))))
 ·(try simp only [aG] at h1)
  have hbe : s.rO ≠ 0 := h1
  have hbs : s.gX = s := by unfold bH.gX bH.rO at *; split at hbe <;> simp_all
  refine ay (ah (aI rfl (aW rfl (aA (aj (aK (aN (aQ (.inl rfl) results27 rfl ?_))))))))
  exact ⟨by unfold bH.CU; rw [if_pos hbe], by unfold bH.zK; rw [if_pos hbe]; rw [hbs] at H2; exact H2.f2.f2⟩
 ·(try simp only [aG] at h1)
  have hbe : ¬ s.rO ≠ 0 := by have h9 := h1; simpa using h9
  refine aO (aj (ay ?_))
  obtain ⟨LQ, Ew, LU, LV, LW, LX, tZ, oN⟩ := (H2.f2).search
  have YK := oN.drew
  have uV := aB.kp (YK.f8.f8.f8.f8.f8.f8.f8.f8)
  refine wo [6, 11] uV rfl (gV 0 rfl uV rfl (gV 1 rfl uV rfl (gV 2 rfl uV rfl (iZ 3 rfl uV rfl (dV 4 rfl uV 2 underlying75 rfl sizeOf52 rfl (dV 5 rfl uV 3 underlying52 rfl sizeOf3 rfl (iy 6 rfl uV (fun W hW => iQ underlying3 rfl ((Kp.h hW)).get.2 rfl) (gV 7 rfl uV rfl (iZ 8 rfl uV rfl (dV 9 rfl uV 2 underlying75 rfl sizeOf52 rfl (dV 10 rfl uV 4 underlying52 rfl sizeOf3 rfl (iy 11 rfl uV (fun W hW => iQ underlying3 rfl ((Kp.h hW)).get.2 rfl) (jr 12 rfl (rX rfl func68 (JX YK.f8 (by assumption) (by assumption))) ?_)))))))))))))
  rintro _ w4 ⟨rfl, H4⟩
  have uz := aB.kp (H4.f8.f8.f8.f8.f8.f8.f8.f8)
  refine dR uz (by kernel_rfl) ?_
  refine jr 13 rfl (rX rfl func37 (vO H4)) ?_
  rintro _ w5 ⟨rfl, H5⟩
  have uG := aB.kp (H5.f8.f8.f8.f8.f8.f8.f8.f8)
  refine dR uG (by kernel_rfl) ?_
  refine iR 14 rfl uG (fun _ => fA rfl) (nJ (aj (aK (aQ (.inl rfl) results27 rfl ?_))))
  have Qu := H5.f8.f8.f8.f8.f8.f8.f8
  have Oo := aB.kF tZ Qu
  exact ⟨by unfold bH.CU; rw [if_neg hbe], by unfold bH.zK; rw [if_neg hbe]; exact Oo.f2⟩
end
end Go.Proofs.YtddekefihgejoaaGreatDoor
end
section
namespace Go.Proofs.YtddekefihgejoaaGreatDoor
open Go.RowKit
open _root_.Go.Proofs.Tryz
def bH.pX (s : bH) (l : List Int) : Int := if s.inn then 1 else if 1024 < l.length then 3 else 0
def bH.Hz (s : bH) (hl : List lC) (base most : Int) (l : List Int) : bH := if s.pX l = 0 then s.start hl base most l else s
theorem RP {s : bH} (h : jY s) (hi : s.inn = false) (hl : List lC) (base most : Int) (l : List Int) : jY (s.start hl base most l) := by
  obtain ⟨h1, h2, h3, h4, h5, h6⟩ := h
  refine ⟨Jz _ _ _ _ _, fun h => absurd (show s.inn = true from h) (by rw [hi]; decide), ⟨by show (-1 : Int) ≤ -1; decide, by show (-1 : Int) ≤ 1000000; decide⟩, h4, ?_, by simp [bH.start, lK.fresh]⟩
  show eY [] s.put ≤ 16384
  unfold eY at *; simp at *; omega
section
variable {w0 w : World} {F : HP} {e p h pr : Nat} {s : bH} {hl : List lC} {base most m : Int} {v : Value} {l : List Int}
theorem HY (H : aB w0 w (dO e s • dn h hl base most • F)) (hr : iG w0 F .i32 v l) : gG prog 35 #[.pointer (some ⟨e, 0, none⟩), .pointer (some ⟨h, 0, none⟩), v] w fun v' w' =>
  v' = .int .i64 (s.pX l) ∧ aB w0 w' (dO e (s.Hz hl base most l) • dn h hl base most • F) := by
 unfold bH.Hz
 refine iF func35 ntmps35 ?_
 dsimp only [bg, Nat.reduceAdd]
 refine ay (ah (aW rfl (aA (aj (ay (bf (ay (ah (aI rfl (dH rfl func54 (pJ H) ?_))))))))))
 rintro _ _ ⟨rfl, rfl⟩
 refine aI rfl (aY (aI rfl (aY (dH rfl func77 (nT H.f2) ?_))))
 rintro _ w2 ⟨q2, rfl, H2⟩
 refine aY (aU (iI underlying65 rfl rfl) (fC rfl rfl (aW rfl (aA (aj (aP rfl (fun h => by exfalso; (try simp only [aG] at h); simp at h) (fun h1 => ?_)))))))
 (try simp only [aG] at h1)
 refine ay ?_
 have WO := H2.right
 obtain ⟨qy, qA, qB, qC, qE, qF, qG, qH, oq, mM, mO, mP, mQ, mV, mW, mX, mY, mZ, ng, ni, dI, bM, ig, eH⟩ := (WO.f2).D9
 refine ah (aI rfl (bQ rfl (bC 16 underlying69 rfl sizeOf4 rfl (eu underlying4 rfl (eH).get.2 rfl (aW rfl (aA (aj (aP rfl (fun h2 => ?_) (fun h2 => ?_)))))))))
 ·(try simp only [aG] at h2)
  have hin := h2
  have hE : s.pX l = 1 := by unfold bH.pX; rw [if_pos hin]
  refine ay (ah (aW rfl (aA (aj (aK (aX (aN (aQ (.inl rfl) results35 rfl ?_))))))))
  have VD := eH.f11.f11.f11.f11.f11.f11.f11.f11.f11.f11.f11
  have VE := aB.dY (s := s) dI bM VD
  exact ⟨by rw [hE], by rw [if_neg (by rw [hE]; decide)]; exact VE.f2.f2⟩
 ·(try simp only [aG] at h2)
  have hin : s.inn = false := by simpa using h2
  refine ay (ah (aI rfl (aU (eG (hr _ (eH.right.right.right.right.right.right.right.right.right.right.right.right)) underlying23 rfl) (aU (fB rfl rfl) (aW rfl (aA (aj (aP rfl (fun h3 => ?_) (fun h3 => ?_)))))))))
  ·(try simp only [aG] at h3)
   have hbig := h3
   have hE : s.pX l = 3 := by unfold bH.pX; rw [if_neg (by simp [hin]), if_pos (by omega)]
   refine ay (ah (aW rfl (aA (aj (aK (aX (aN (aQ (.inl rfl) results35 rfl ?_))))))))
   have Ho9 := eH.f11.f11.f11.f11.f11.f11.f11.f11.f11.f11.f11
   have aa5 := aB.dY (s := s) dI bM Ho9
   exact ⟨by rw [hE], by rw [if_neg (by rw [hE]; decide)]; exact aa5.f2.f2⟩
  ·(try simp only [aG] at h3)
   have hE : s.pX l = 0 := by unfold bH.pX; rw [if_neg (by simp [hin]), if_neg (by have h9 := h3; omega)]
   have hsh : l.length ≤ 1024 := by have h9 := h3; omega
   refine aO (aH (aj (ay (ah (aI rfl (aI rfl (aI rfl (dH rfl func79 (yc (E := s.c.E) (a := s.c.at_) eH.f2.right.f3.right.f3.right.f3.right.f3.right.f6.f6.f6.f6.f6.f7.f7 (fun W HW => hr W HW.right.right.right.right.right) hsh) ?_))))))))
   rintro _ Gq ⟨qb, qw, qt, qm, qh, sD⟩
   refine aA (aj (ay (ah (aW rfl (aA (aj (aK (aQ (.inl rfl) results35 rfl ?_))))))))
   exact ⟨by rw [hE], by rw [if_pos hE]; exact aB.dY (s := s.start hl base most l) (RP dI hin _ _ _ _) bM sD.f7.f12.f12.f12.f12.f11.f11.f11.f11.f12.f12.f12⟩
end
end Go.Proofs.YtddekefihgejoaaGreatDoor
end
section
namespace Go.Proofs.YtddekefihgejoaaGreatDoor
open Go.RowKit
open _root_.Go.Proofs.Tryz
def xI (l : List lC) : Int := if l.any (fun x => decide (16384 < x.1.size)) then 3 else if l.any (fun x => decide (x.2 < 0)) then 1 else 0
theorem RQ {l : List lC} {k : Nat} (hk : k < l.length) : l.getD k default ∈ l := by rw [List.getD_eq_getElem?_getD, List.getElem?_eq_getElem hk]; exact List.getElem_mem hk
theorem RS {l : List lC} {p : lC → Prop} (h : ∀ k, k < l.length → p (l.getD k default)) : ∀ x ∈ l, p x := by
  intro x hx
  obtain ⟨k, hk, rfl⟩ := List.getElem_of_mem hx
  have := h k hk
  rwa [List.getD_eq_getElem?_getD, List.getElem?_eq_getElem hk] at this
theorem OW {l : List lC} {k : Nat} (hk : k < l.length) (h : (16384 : Int) < (l.getD k default).1.size) : xI l = 3 := by
  unfold xI
  rw [if_pos (List.any_eq_true.2 ⟨_, RQ hk, decide_eq_true (by omega)⟩)]
theorem ED {l : List lC} (h1 : ∀ k, k < l.length → ¬ (16384 : Int) < (l.getD k default).1.size) : xI l = if l.any (fun x => decide (x.2 < 0)) then 1 else 0 := by
  unfold xI
  rw [if_neg]
  intro c
  obtain ⟨x, hx, hd⟩ := List.any_eq_true.1 c
  have := RS (p := fun x => ¬ (16384 : Int) < x.1.size) h1 x hx
  simp at hd; omega
theorem RU {l : List lC} (h1 : ∀ k, k < l.length → ¬ (16384 : Int) < (l.getD k default).1.size) {k : Nat} (hk : k < l.length) (h : (l.getD k default).2 < 0) : xI l = 1 := by
  rw [ED h1, if_pos (List.any_eq_true.2 ⟨_, RQ hk, by simpa using h⟩)]
theorem Ur {l : List lC} (h1 : ∀ k, k < l.length → ¬ (16384 : Int) < (l.getD k default).1.size) (h2 : ∀ k, k < l.length → ¬ (l.getD k default).2 < 0) : xI l = 0 := by
  rw [ED h1, if_neg]
  intro c
  obtain ⟨x, hx, hd⟩ := List.any_eq_true.1 c
  exact RS (p := fun x => ¬ x.2 < 0) h2 x hx (by simpa using hd)
theorem RV {l : List lC} (h : xI l = 0) : ∀ x ∈ l, Qz x := by
  intro x hx
  unfold xI at h
  split at h
  · simp at h
  · rename_i h1
    split at h
    · simp at h
    · rename_i h2
      simp only [List.any_eq_true, not_exists, not_and, decide_eq_true_eq] at h1 h2
      exact ⟨by have := h1 x hx; omega, by have := h2 x hx; omega⟩
theorem NC (l : List lC) (n : Nat) : (l.flatMap jM).drop (n * 2) = (l.drop n).flatMap jM := by
  induction l generalizing n with
  | nil => simp
  | cons x l ih =>
    cases n with
    | zero => simp
    | succ n => rw [show (n + 1) * 2 = n * 2 + 2 from by omega, List.flatMap_cons, List.drop_succ_cons, ← ih n]; simp [jM, List.drop_append]
theorem Us (l : List lC) : (l.flatMap jM).length = l.length * 2 := by induction l with
  | nil => rfl
  | cons x l ih => rw [List.flatMap_cons, List.length_append, ih, uH, List.length_cons]; omega
theorem Ut {W : World} {v : Value} {l : List lC} {n : Nat} (h : Rd W 2 v l.length (l.flatMap jM)) (hn : n ≤ l.length) : Rd W 2 (nK 2 n l.length v) (l.drop n).length ((l.drop n).flatMap jM) := by
  have h1 := h.cut hn (Nat.le_refl _)
  rw [List.take_of_length_le (by rw [NC, Us]; simp), NC] at h1
  rwa [List.length_drop]
section
variable {P : Program} {L : List (Nat × Value)} {w0 w : World} {F : HP} {p : Nat} {hl l : List lC} {base most : Int} {v : Value}
theorem Ia (H : aB w0 w F) (hv : EL w0 F 2 v l.length (l.flatMap jM)) (hb : l.length ≤ 35184372087808) : gG prog 123 #[v] w fun v' w' => v' = .int .i64 (xI l) ∧ aB w0 w' F := by
 refine iF func123 ntmps123 ?_
 dsimp only [bg, Nat.reduceAdd]
 refine ay (ah (aW rfl (aA (aj (ay (ay (ah (aI rfl (aU (eX (hv _ (H)) underlying24 rfl) (aI rfl (aA (aj (bf ?_)))))))))))))
 refine eP [(0, _), (7, _), (8, _)] (fun (k : Nat) => [(9, .int .i64 (k : Int))]) (fun (k : Nat) W => (k ≤ l.length ∧ ∀ i, i < k → ¬ (16384 : Int) < (l.getD i default).1.size) ∧ aB w0 W F) (fun (k : Nat) => l.length - k) (0) (Sub.cons rfl (Sub.cons rfl (Sub.cons rfl (Sub.nil _)))) (Sub.cons rfl (Sub.nil _)) ⟨⟨by omega, fun i hi => absurd hi (by omega)⟩, H⟩ ?_
 rintro k w1 ⟨⟨hk, hsh⟩, HL⟩
 dsimp only [List.cons_append, List.nil_append]
 refine ay (ah (aU (dB rfl rfl) (aA (aj (ay (aP rfl (fun h1 => ?_) (fun h1 => ?_)))))))
 ·(try simp only [aG] at h1)
  refine aO (aj (ay (bf (ay ?_))))
  have hkl : k < l.length := by omega
  refine ah ?_
  obtain ⟨bv, ov, cv, ev⟩ := Rd.kV (hv _ (HL)) (by omega)
  cases ev
  refine aU (bY underlying24 sizeOf84 rfl rfl (by omega)) (aU (jf (ys := [_, _]) (hv _ (HL)) (by omega) underlying84 rfl sizeOf84 rfl (kC uH (by omega) default) rfl) (iw (cZ (l := [_, _]) HL zeroValue84 rfl) ?_))
  rintro _ w2 ⟨b2, rfl, H2⟩
  refine aJ (bG 0 (l' := [_, _]) (us := [_, _]) H2 sizeOf84 rfl rfl rfl (aC (by first | rfl | assumption) (aC (by first | rfl | assumption) bn)) rfl rfl) ?_
  rintro _ w3 H3
  refine aA (aj (ay (ah (bC 0 underlying84 rfl sizeOf9 rfl (eu underlying9 rfl (H3).get.2 rfl (aU (NR underlying9 rfl) (aU (fB rfl rfl) (aA (aj (aP rfl (fun h2 => ?_) (fun h2 => ?_)))))))))))
  ·(try simp only [aG] at h2)
   have hkb := h2
   refine ay (ah (aW rfl (aA (aj (aK (aX (aN (aN (aX (aN (aQ (.inl rfl) results123 rfl ?_)))))))))))
   exact ⟨by rw [OW hkl hkb], H3.right⟩
  ·(try simp only [aG] at h2)
   have hks : ¬ (16384 : Int) < (l.getD k default).1.size := by have h9 := h2; omega
   refine aO (aH (aj (ah (aU (dG rfl rfl (by omega)) (aI rfl (aA ?_))))))
   refine cO (k + 1) ?_ ?_ ?_ ?_
   ·exact (Sub.cons rfl (Sub.nil _))
   ·exact (Sub.cons rfl (Sub.cons rfl (Sub.cons rfl (Sub.nil _))))
   ·(try dsimp only)
    first | done | exact ⟨⟨by omega, fun i hi => (show i < k ∨ i = k from by omega).elim (hsh i) (fun c => c ▸ hks)⟩, H3.right⟩
   ·(try dsimp only); omega
 ·(try simp only [aG] at h1)
  refine dK (aV (aV (bD (aj (ay (ay ?_))))))
  obtain rfl : k = l.length := by omega
  refine ah (aI rfl (aU (eX (hv _ (HL)) underlying24 rfl) (aI rfl (aA (aj (bf ?_))))))
  refine eP [(18, _), (19, _)] (fun (k2 : Nat) => [(20, .int .i64 (k2 : Int))]) (fun (k2 : Nat) W => (k2 ≤ l.length ∧ ∀ i, i < k2 → ¬ (l.getD i default).2 < 0) ∧ aB w0 W F) (fun (k2 : Nat) => l.length - k2) (0) (Sub.cons rfl (Sub.cons rfl (Sub.nil _))) (Sub.cons rfl (Sub.nil _)) ⟨⟨by omega, fun i hi => absurd hi (by omega)⟩, HL⟩ ?_
  rintro k2 w4 ⟨⟨hk2, hpo⟩, HL2⟩
  dsimp only [List.cons_append, List.nil_append]
  refine ay (ah (aU (dB rfl rfl) (aA (aj (ay (aP rfl (fun h3 => ?_) (fun h3 => ?_)))))))
  ·(try simp only [aG] at h3)
   refine aO (aj (ay (bf (ay ?_))))
   have hkl2 : k2 < l.length := by omega
   refine ah ?_
   obtain ⟨bv, ov, cv, ev⟩ := Rd.kV (hv _ (HL2)) (by omega)
   cases ev
   refine aU (bY underlying24 sizeOf84 rfl rfl (by omega)) (aU (jf (ys := [_, _]) (hv _ (HL2)) (by omega) underlying84 rfl sizeOf84 rfl (kC uH (by omega) default) rfl) (iw (cZ (l := [_, _]) HL2 zeroValue84 rfl) ?_))
   rintro _ w5 ⟨b5, rfl, H5⟩
   refine aJ (bG 0 (l' := [_, _]) (us := [_, _]) H5 sizeOf84 rfl rfl rfl (aC (by first | rfl | assumption) (aC (by first | rfl | assumption) bn)) rfl rfl) ?_
   rintro _ w6 H6
   refine aA (aj (ay (ah (bC 1 underlying84 rfl sizeOf2 rfl (eu underlying2 rfl (H6).get.2 rfl (aU (dB rfl rfl) (aA (aj (aP rfl (fun h4 => ?_) (fun h4 => ?_))))))))))
   ·(try simp only [aG] at h4)
    have hkn := h4
    refine ay (ah (aW rfl (aA (aj (aK (aX (aN (aN (aX (aN (aQ (.inl rfl) results123 rfl ?_)))))))))))
    exact ⟨by rw [RU hsh hkl2 hkn], H6.right⟩
   ·(try simp only [aG] at h4)
    have hkp : ¬ (l.getD k2 default).2 < 0 := by have h9 := h4; omega
    refine aO (aH (aj (ah (aU (dG rfl rfl (by omega)) (aI rfl (aA ?_))))))
    refine cO (k2 + 1) ?_ ?_ ?_ ?_
    ·exact (Sub.cons rfl (Sub.nil _))
    ·exact (Sub.cons rfl (Sub.cons rfl (Sub.nil _)))
    ·(try dsimp only)
     first | done | exact ⟨⟨by omega, fun i hi => (show i < k2 ∨ i = k2 from by omega).elim (hpo i) (fun c => c ▸ hkp)⟩, H6.right⟩
    ·(try dsimp only); omega
  ·(try simp only [aG] at h3)
   refine dK (aV (aV (bD (aj (ay ?_)))))
   obtain rfl : k2 = l.length := by omega
   refine ah (aW rfl (aA (aj (aK (aQ (.inl rfl) results123 rfl ?_)))))
   exact ⟨by rw [Ur hsh hpo], HL2⟩
def oz (hl : List lC) (most : Int) : Nat := hl.length - most.toNat
theorem AA (H : aB w0 w (dh p (.cells #[v, .int .i64 base, .int .i64 most] 176 (0, 0)) • Row 84 2 v hl.length (hl.flatMap jM) • F)) (hm : 0 ≤ most ∧ most ≤ 4096) (hb : 1 ≤ base ∧ base ≤ 2305843009213693952) (hn : hl.length ≤ 70368744177664) :
  gG prog 124 #[.pointer (some ⟨p, 0, none⟩)] w fun _ w' => ∃ v', aB w0 w' (dh p (.cells #[v', .int .i64 (base + oz hl most), .int .i64 most] 176 (0, 0)) • Row 84 2 v' (hl.drop (oz hl most)).length ((hl.drop (oz hl most)).flatMap jM) • F) := by
 refine iF func124 ntmps124 ?_
 dsimp only [bg, Nat.reduceAdd]
 refine ay ?_
 have OX := H.drew
 have sU := aB.kp (OX.f2.f2)
 refine wo [4, 10] sU rfl (gV 0 rfl sU rfl (iZ 1 rfl sU rfl (dV 2 rfl sU 0 underlying176 rfl sizeOf174 rfl (dV 3 rfl sU 0 underlying174 rfl sizeOf24 rfl (iy 4 rfl sU (fun W hW => iQ underlying24 rfl ((Kp.h hW)).get.2 rfl) (iR 5 rfl sU (fun _ => eX ((OX.f2).aT) underlying24 rfl) (gV 6 rfl sU rfl (iZ 7 rfl sU rfl (dV 8 rfl sU 0 underlying176 rfl sizeOf174 rfl (dV 9 rfl sU 2 underlying174 rfl sizeOf3 rfl (iy 10 rfl sU (fun W hW => iQ underlying3 rfl ((Kp.h hW)).get.2 rfl) (iR 11 rfl sU (fun _ => je rfl rfl (by omega)) (iR 12 rfl sU (fun _ => fA rfl) (nJ (aj (ay (ah (aI rfl (aU (fB rfl rfl) (aA (aj (aP rfl (fun h1 => ?_) (fun h1 => ?_)))))))))))))))))))))))
 ·(try simp only [aG] at h1)
  have hk : (oz hl most : Int) = (hl.length : Int) - most := by have h9 := h1; unfold oz; omega
  refine ay (ah (aI rfl (aI rfl (bQ rfl (bC 0 underlying176 rfl sizeOf174 rfl (bC 0 underlying174 rfl sizeOf24 rfl (eu underlying24 rfl (OX).get.2 rfl (aI rfl (aU (uj ((OX.f2).aT) underlying24 sizeOf84 rfl rfl rfl (by omega)) (dH rfl func104 (vJ (hl := hl.drop (oz hl most)) OX (fun W HW => by rw [show ((hl.length : Int) - most).toNat = oz hl most from by omega, show ((hl.length : Nat) : Int).toNat = hl.length from by omega]; exact Ut HW.f2.aT (by unfold oz; omega)) (by rw [List.length_drop]; unfold oz; omega)) ?_))))))))))
  rintro u1 w1 H1
  refine bQ rfl (bC 0 underlying176 rfl sizeOf174 rfl (bC 0 underlying174 rfl sizeOf24 rfl (aJ (aS 0 (l' := [_, _, _]) H1.f2 sizeOf24 rfl rfl (by first | rfl | exact Rd.one ((H1).aT)) rfl rfl) ?_)))
  rintro _ w2 H2
  refine aA (aj (ah (aI rfl (bQ rfl (bC 0 underlying176 rfl sizeOf174 rfl (bC 1 underlying174 rfl sizeOf2 rfl (eu underlying2 rfl (H2).get.2 rfl (aI rfl (aU (dG rfl rfl (by omega)) (bQ rfl (bC 0 underlying176 rfl sizeOf174 rfl (bC 1 underlying174 rfl sizeOf2 rfl (aJ (aS 1 (l' := [_, _, _]) H2 sizeOf2 rfl rfl (by first | rfl | assumption) rfl rfl) ?_)))))))))))))
  rintro _ w3 H3
  refine aA (gB (.inr rfl) results124 ?_)
  exact ⟨_, by rw [hk]; exact H3.f3.right.f2.f2⟩
 ·(try simp only [aG] at h1)
  have hk : oz hl most = 0 := by have h9 := h1; unfold oz; omega
  refine aO (gB (.inr rfl) results124 ?_)
  exact ⟨_, by rw [hk]; simpa using OX⟩
theorem YL {hl l : List lC} {base most : Int} (h : VB hl base most) (hb : hl.length + l.length ≤ 5864062014805) (hm : xI l = 0) (hbase : base ≤ 1152921504606846976) : VB ((hl ++ l).drop (oz (hl ++ l) most)) (base + oz (hl ++ l) most) most := by
  obtain ⟨h1, h2, h3, h4, h5, h6⟩ := h
  have hl1 : (hl ++ l).length = hl.length + l.length := List.length_append
  refine ⟨?_, ?_, ?_, ?_, h5, fun x hx => ?_⟩
  · rw [List.length_drop]; unfold oz; omega
  · omega
  · unfold oz; omega
  · rw [List.length_drop]; unfold oz; omega
  · rcases List.mem_append.1 (List.mem_of_mem_drop hx) with c | c
    · exact h6 x c
    · exact RV hm x c
def Eu (hl : List lC) (most : Int) (l : List lC) : List lC := if xI l = 0 then (hl ++ l).drop (oz (hl ++ l) most) else hl
def RX (hl : List lC) (base most : Int) (l : List lC) : Int := if xI l = 0 then base + oz (hl ++ l) most else base
theorem Ib (H : aB w0 w (dn p hl base most • F)) (hv : EL w0 F 2 v l.length (l.flatMap jM)) (hb : hl.length + l.length ≤ 5864062014805) (hbase : base ≤ 1152921504606846976) :
  gG prog 76 #[.pointer (some ⟨p, 0, none⟩), v] w fun v' w' => v' = .int .i64 (xI l) ∧ aB w0 w' (dn p (Eu hl most l) (RX hl base most l) most • F) := by
 refine iF func76 ntmps76 ?_
 dsimp only [bg, Nat.reduceAdd]
 refine ay (ah (aW rfl (aA (aj (ay (ay (ah (aI rfl (dH rfl func103 (oV H) ?_)))))))))
 rintro _ _ ⟨rfl, rfl⟩
 refine aA (aj (nY (aO (aj (ay (ay (ah (aI rfl (dH rfl func123 (Ia H (fun W HW => hv _ (HW.right)) (by omega)) ?_)))))))))
 rintro _ w2 ⟨rfl, H2⟩
 refine aW rfl (aA (aj (ay (ah (aI rfl (aU (gy rfl rfl) (aA (aj (aP rfl (fun h1 => ?_) (fun h1 => ?_))))))))))
 ·(try simp only [aG] at h1)
  have hm := h1
  refine ay (ah (aI rfl (aW rfl (aA (aj (aK (aN (aQ (.inl rfl) results76 rfl ?_))))))))
  exact ⟨rfl, by unfold Eu RX; rw [if_neg hm, if_neg hm]; exact H2⟩
 ·(try simp only [aG] at h1)
  have hm : xI l = 0 := h1
  refine aO (aj (ay ?_))
  obtain ⟨QA, uI, vK⟩ := (H2).hist
  have hkl := uI.1
  have hon := @MR l
  refine ah (aI rfl (aI rfl (bQ rfl (bC 0 underlying176 rfl sizeOf174 rfl (bC 0 underlying174 rfl sizeOf24 rfl (eu underlying24 rfl (vK).get.2 rfl (aI rfl (iw (fP vK.f2 underlying24 (show (prog.info? 84).map (fun i => (i.zero, i.size, i.bytes)) = some (some (.agg #[.string .empty, .int .i64 0]), 2, 24) by kernel_rfl) rfl rfl rfl (hv _ (vK.right.right)) (by assumption) (by omega) (by omega)) ?_))))))))
  rintro l4 w4 H4
  refine bQ rfl (bC 0 underlying176 rfl sizeOf174 rfl (bC 0 underlying174 rfl sizeOf24 rfl (aJ (aS 0 (l' := [_, _, _]) H4.f2 sizeOf24 rfl rfl (by first | rfl | exact Rd.one ((H4).aT)) rfl rfl) ?_)))
  rintro _ w5 H5
  refine aA (aj (ay (ah (aI rfl (dH rfl func124 (AA (hl := hl ++ l) (by rw [List.flatMap_append, List.length_append]; exact H5.f2.f2) ⟨by have := uI.2.2.2.1; omega, uI.2.2.2.2.1⟩ ⟨uI.2.1, by omega⟩ (by have := uI.1; rw [List.length_append]; omega)) ?_)))))
  rintro _ w6 ⟨v2, H6⟩
  refine aA (aj (ay (ah (aW rfl (aA (aj (aK (aQ (.inl rfl) results76 rfl ?_))))))))
  exact ⟨by rw [hm], by unfold Eu RX; rw [if_pos hm, if_pos hm]; exact aB.qx (YL uI hb hm hbase) H6⟩
theorem EF {n : Int} (H : aB w0 w F) (hn : 0 ≤ n ∧ n ≤ 4096) (hv : EL w0 F 2 v l.length (l.flatMap jM)) (hb : l.length ≤ 5864062014805) (hm : xI l = 0) : gG prog 33 #[.int .i64 n, v] w fun v' w' =>
  ∃ p, v' = .tuple #[.pointer (some ⟨p, 0, none⟩), .int .i64 0] ∧ aB w0 w' (dn p (Eu [] n l) (RX [] 1 n l) n • F) := by
 refine iF func33 ntmps33 ?_
 dsimp only [bg, Nat.reduceAdd]
 refine ay (ah (aW rfl (aW rfl (aA (aj (ay (ah (aI rfl (dH rfl func75 (GV H (by omega)) ?_)))))))))
 rintro _ w1 ⟨p1, rfl, H1⟩
 refine aI rfl (wU rfl rfl (wU rfl rfl (aW rfl (aW rfl (aA (aj (ay (ay (ah (aI rfl (aU (gy rfl rfl) (aA (aj (aP rfl (fun h => by exfalso; (try simp only [aG] at h); simp at h) (fun h1 => ?_)))))))))))))))
 (try simp only [aG] at h1)
 refine aO (aj (ay (ay (ah (aI rfl (aI rfl (dH rfl func76 (Ib H1 hv (by simp; omega) (by decide)) ?_)))))))
 rintro _ w2 ⟨rfl, H2⟩
 refine aW rfl (aA (aj (ay (ah (aI rfl (aU (gy rfl rfl) (aA (aj (aP rfl (fun h => by exfalso; (try simp only [aG] at h); exact h hm) (fun h2 => ?_))))))))))
 (try simp only [aG] at h2)
 refine aO (aj (ay (ah (aI rfl (aW rfl (aW rfl (aA (aj (aK (gW (.inl rfl) results33 rfl rfl ?_))))))))))
 exact ⟨_, rfl, H2⟩
end
def F5 (l : List lC) : List lC := Eu [] 4096 l
def F6 (l : List lC) : Int := RX [] 1 4096 l
end Go.Proofs.YtddekefihgejoaaGreatDoor
end
section
namespace Go.Proofs.YtddekefihgejoaaGreatDoor
open Go.RowKit
open _root_.Go.Proofs.Tryz
namespace bH
variable (s : bH)
def YM (k : Int) : bH := (s.gX.uU k).nV (s.gX.lS k)
def aa6 (l : List Int) : bH := (s.gX.Ov l).nV (s.gX.QB l)
def YN (x : Int) : bH := (s.gX.wM x).nV (s.gX.FC x)
end bH
def EG (l : List lC) (ln : List Int) : bH := (bH.new (F5 l) (F6 l) 4096).Hz (F5 l) (F6 l) 4096 ln
def U8 (l : List lC) (ln : List Int) (place : Int) (ty : List Int) (pt : Int) : bH := (((EG l ln).YM place).aa6 ty).YN pt
theorem Uu {l : List lC} {ln : List Int} (h : ln.length ≤ 1024) : (EG l ln).gX.c.L = ln := by
  have e : (bH.new (F5 l) (F6 l) 4096).pX ln = 0 := by unfold bH.pX; rw [if_neg (by rw [show (bH.new (F5 l) (F6 l) 4096).inn = false from rfl]; decide), if_neg (by omega)]
  unfold EG bH.Hz
  rw [if_pos e]
  rfl
theorem L6 (l : List lC) (ln : List Int) : (bH.new (F5 l) (F6 l) 4096).pX ln = if 1024 < ln.length then 3 else 0 := by
  unfold bH.pX; rw [if_neg (by rw [show (bH.new (F5 l) (F6 l) 4096).inn = false from rfl]; decide)]
section
variable {w0 w : World} {F : HP} {l : List lC} {hv lv tv : Value} {ln ty : List Int} {place pt : Int}
theorem OY (H : aB w0 w F) (q1 : EL w0 F 2 hv l.length (l.flatMap jM)) (q2 : iG w0 F .i32 lv ln) (q3 : iG w0 F .i32 tv ty) (hb : l.length ≤ 5864062014805) (hm : xI l = 0) (hln : ln.length ≤ 1024) (hT : rZ w0) (hRL : tV ln) :
  gG prog 10 #[.agg #[hv, lv, .int .i64 place, tv, .int .i64 pt]] w fun v w' => ∃ e, v = .pointer (some ⟨e, 0, none⟩) ∧ aB w0 w' (dO e (U8 l ln place ty pt) • F) := by
 have hR2 : tV (EG l ln).gX.c.L := by rw [Uu hln]; exact hRL
 refine iF func10 ntmps10 ?_
 dsimp only [bg, Nat.reduceAdd]
 refine ay (ah (iw (jd (l := [_, _, _, _, _]) H rfl rfl) ?_))
 rintro _ w1 ⟨b1, rfl, H1⟩
 refine aW rfl (aA (aj (ay (ah (bC 0 underlying26 rfl sizeOf24 rfl (eu underlying24 rfl (H1).get.2 rfl (dH rfl func33 (EF H1 (by decide) (fun W HW => q1 _ (HW.right)) hb hm) ?_)))))))
 rintro _ w2 ⟨p2, rfl, H2⟩
 refine aI rfl (wU rfl rfl (wU rfl rfl (aW rfl (aW rfl (aA (aj (ay (ay (ah (aI rfl (aU (gy rfl rfl) (aA (aj (aP rfl (fun h => by exfalso; (try simp only [aG] at h); simp at h) (fun h1 => ?_)))))))))))))))
 (try simp only [aG] at h1)
 refine aO (aj (ay (ah (aI rfl (dH rfl func34 (Lr H2) ?_)))))
 rintro _ w3 ⟨e3, rfl, H3⟩
 refine aI rfl (wU rfl rfl (wU rfl rfl (aW rfl (aW rfl (aA (aj (ay (ay (ah (aI rfl (aU (gy rfl rfl) (iM rfl (fun h => by exfalso; (try simp only [aG] at h); simp at h) (fun h2 => ?_)))))))))))))
 (try simp only [aG] at h2)
 refine aY (aI rfl (aY (aU (iI underlying30 rfl rfl) (fC rfl rfl (iM rfl (fun h => by exfalso; (try simp only [aG] at h); simp at h) (fun h3 => ?_))))))
 (try simp only [aG] at h3)
 refine aY (aI rfl (aY (aI rfl (aY (bC 1 underlying26 rfl sizeOf23 rfl (aY (eu underlying23 rfl (H3.f3).get.2 rfl (aY (dH rfl func35 (HY H3.f2.f2 (fun W HW => q2 _ (HW.right))) ?_)))))))))
 rintro _ w4 ⟨rfl, H4⟩
 refine aY (aU (gy rfl rfl) (fC rfl rfl (aA (aj (aP rfl (fun h => by exfalso; (try simp only [aG] at h); have h9 := L6 l ln; rw [if_neg (by omega)] at h9; exact h h9) (fun h4 => ?_))))))
 (try simp only [aG] at h4)
 refine aO (aj (ay (ah (aI rfl (dH rfl func36 (qI (s := EG l ln) H4) ?_)))))
 rintro _ w5 ⟨rfl, H5⟩
 refine aA (aj (ay (ah (aI rfl (aI rfl (bC 2 underlying26 rfl sizeOf3 rfl (eu underlying3 rfl (H5.f3).get.2 rfl (dH rfl func38 (BG H5 (by assumption) (by assumption)) ?_))))))))
 rintro _ w6 ⟨rfl, H6⟩
 refine dH rfl func37 (vO H6) ?_
 rintro _ w7 ⟨rfl, H7⟩
 refine aA (aj (ay (ah (aI rfl (dH rfl func36 (qI H7) ?_)))))
 rintro _ w8 ⟨rfl, H8⟩
 refine aA (aj (ay (ah (aI rfl (aI rfl (bC 3 underlying26 rfl sizeOf23 rfl (eu underlying23 rfl (H8.f3).get.2 rfl (dH rfl func39 (ES H8 (fun W HW => q3 _ (HW.right.right))) ?_))))))))
 rintro _ w9 ⟨rfl, H9⟩
 refine dH rfl func37 (vO H9) ?_
 rintro _ w10 ⟨rfl, qL⟩
 refine aA (aj (ay (ah (aI rfl (dH rfl func36 (qI qL) ?_)))))
 rintro _ Gq ⟨rfl, sD⟩
 refine aA (aj (ay (ah (aI rfl (aI rfl (bC 4 underlying26 rfl sizeOf3 rfl (eu underlying3 rfl (sD.f3).get.2 rfl (dH rfl func40 (Bq sD) ?_))))))))
 rintro _ w12 ⟨rfl, vV⟩
 refine dH rfl func37 (vO vV) ?_
 rintro _ O7 ⟨rfl, xQ⟩
 refine aA (aj (ay (ah (aI rfl (aW rfl (aA (aj (aK (aQ (.inl rfl) results10 rfl ?_)))))))))
 exact ⟨_, rfl, xQ.f2.right.f2.right⟩
end
end Go.Proofs.YtddekefihgejoaaGreatDoor
end
section
namespace Go.Proofs.YtddekefihgejoaaGreatDoor
open Go.RowKit
structure Out (s : bH) (L : List Int) (pt : Int) (G : List (List fJ)) (run : Bool) : Prop where
  inn : s.inn = false
  L : s.c.L = L
  pt : s.c.pt = pt
  G : s.c.un s.c.place = G
  run : s.c.run = run
  over : s.c.over = false
structure U9 (s : bH) (L : List Int) (pt : Int) (G : List (List fJ)) (run : Bool) : Prop where
  inn : s.inn = true
  L : s.c.L = L
  pt : s.c.pt = pt
  G : s.c.un s.c.place = G
  run : s.c.run = run
  over : s.c.over = false
  put : s.put = []
  cls : s.cls = 0
  whole : s.whole = true
section
variable {s : bH} {L : List Int} {pt : Int} {G : List (List fJ)} {run : Bool} {r : Int}
theorem Out.begin (h : Out s L pt G run) : U9 s.gX L pt G run ∧ s.rO = 0 := by
  unfold bH.gX bH.rO
  rw [if_neg (by rw [h.inn]; decide), if_neg (by rw [h.inn]; decide)]
  exact ⟨⟨rfl, h.L, h.pt, h.G, h.run, h.over, rfl, rfl, rfl⟩, rfl⟩
def RY (G : List (List fJ)) (run : Bool) (x : fJ) : List (List fJ) := if run then (match G.getLast? with | some g => G.dropLast ++ [g ++ [x]] | none => [[x]]) else G ++ [[x]]
theorem U9.Va (h : U9 s L pt G run) (h1 : 0 ≤ pt ∧ pt ≤ L.length) (h2 : L.length < 1024) (h3 : eY G [] < 16384) :
    s.QC [r] = 0 ∧ s.xX [r] = { (s.jO (L.take pt.toNat ++ [r] ++ L.drop pt.toNat) (pt + 1) (qg L s.c.mark pt pt [r])) with put := [(pt, [], [r])], cls := 3 } := by
  have hto : s.Ak [r] = pt := by unfold bH.Ak; rw [h.over]; exact h.pt
  have hE : kH L pt pt [r] = 0 := by unfold kH; rw [if_neg (by omega), if_neg (by simp; omega)]
  have hE' : s.oJ s.c.pt (s.Ak [r]) [r] = 0 := by unfold bH.oJ; rw [if_pos h.inn, hto, h.pt, h.L]; exact hE
  have hP : qc L pt pt pt [r] = pt + 1 := by unfold qc bJ; rw [if_pos hE, if_neg (by omega), if_pos (by omega)]; rfl
  have hD : jW L pt pt [r] = [] := by unfold jW; rw [if_pos hE]; simp
  have hI : jX L pt pt [r] = [r] := by unfold jX; rw [if_pos hE]
  have hA : pG L pt pt [r] = pt := by unfold pG; rw [if_pos hE]
  have hL : pY L pt pt [r] = L.take pt.toNat ++ [r] ++ L.drop pt.toNat := by unfold pY; rw [if_pos hE]
  have hS : s.sK s.c.pt (s.Ak [r]) [r] = { (s.jO (L.take pt.toNat ++ [r] ++ L.drop pt.toNat) (pt + 1) (qg L s.c.mark pt pt [r])) with put := [(pt, [], [r])] } := by
    unfold bH.sK
    rw [if_pos h.inn, hto, h.pt, h.L, hP, hD, hI, hA, hL]
    unfold bH.xW
    rw [if_neg (by simp), if_neg (by
      show ¬ 16384 ≤ eY (s.c.un s.c.place) s.put
      rw [h.G, h.put]; omega)]
    show _ = _
    unfold bH.jO
    simp only [h.put, List.nil_append]
  refine ⟨hE', ?_⟩
  unfold bH.xX
  rw [if_pos h.inn]
  dsimp only
  rw [if_pos ⟨hE', h.cls⟩, hS]
theorem RZ (u : bH) (h : u.inn = true) : (u.nV 0).c.L = u.c.L := by by_cases ha : u.argues = true <;> by_cases hp : u.put = [] <;> by_cases hc : u.cls = 2 <;> simp [bH.nV, bH.kZ, bH.gJ, bH.dA, bH.zy, bH.nU, bH.jS, bH.here, iK, ha, hp, hc, h]
theorem ND (u : bH) (h : u.inn = true) : (u.nV 0).c.pt = u.c.pt := by by_cases ha : u.argues = true <;> by_cases hp : u.put = [] <;> by_cases hc : u.cls = 2 <;> simp [bH.nV, bH.kZ, bH.gJ, bH.dA, bH.zy, bH.nU, bH.jS, bH.here, iK, ha, hp, hc, h]
theorem F7 (u : bH) (h : u.inn = true) : (u.nV 0).c.over = u.c.over := by by_cases ha : u.argues = true <;> by_cases hp : u.put = [] <;> by_cases hc : u.cls = 2 <;> simp [bH.nV, bH.kZ, bH.gJ, bH.dA, bH.zy, bH.nU, bH.jS, bH.here, iK, ha, hp, hc, h]
theorem JY (u : bH) (h : u.inn = true) : (u.nV 0).inn = false := by by_cases ha : u.argues = true <;> by_cases hp : u.put = [] <;> by_cases hc : u.cls = 2 <;> simp [bH.nV, bH.kZ, bH.gJ, bH.dA, bH.zy, bH.nU, bH.jS, bH.here, iK, ha, hp, hc, h]
theorem JZ (u : bH) (h : u.inn = true) : (u.nV 0).c.run = (u.typed && (!u.put.isEmpty || u.c.run)) := by by_cases ha : u.argues = true <;> by_cases hp : u.put = [] <;> by_cases hc : u.cls = 2 <;> simp [bH.nV, bH.kZ, bH.gJ, bH.dA, bH.zy, bH.nU, bH.jS, bH.here, iK, ha, hp, hc, h]
theorem NG (u : bH) (h : u.inn = true) : (u.nV 0).c.un (u.nV 0).c.place = u.jS (u.typed && u.c.run) := by by_cases ha : u.argues = true <;> by_cases hp : u.put = [] <;> by_cases hc : u.cls = 2 <;> simp [bH.nV, bH.kZ, bH.gJ, bH.dA, bH.zy, bH.nU, bH.jS, bH.here, iK, ha, hp, hc, h]
theorem U9.typed (h : U9 s L pt G run) (h1 : 0 ≤ pt ∧ pt ≤ L.length) (h2 : L.length < 1024) (h3 : eY G [] < 16384) :
    Out ((s.xX [r]).nV 0) (L.take pt.toNat ++ [r] ++ L.drop pt.toNat) (pt + 1) (RY G run (pt, [], [r])) true ∧ (s.xX [r]).Aj 0 = 0 := by
  obtain ⟨_, e⟩ := h.Va (r := r) h1 h2 h3
  have hu : (s.xX [r]).inn = true := by rw [e]; exact h.inn
  have hT : (s.xX [r]).typed = true := by rw [e]; show (((3 : Int) == 3) && s.whole) = true; rw [h.whole]; rfl
  have hp : (s.xX [r]).put = [(pt, [], [r])] := by rw [e]
  have hr : (s.xX [r]).c.run = run := by rw [e]; exact h.run
  have hh : (s.xX [r]).here = G := by rw [e]; exact h.G
  refine ⟨⟨JY _ hu, (RZ _ hu).trans (by rw [e]; rfl), (ND _ hu).trans (by rw [e]; rfl), ?_, ?_, (F7 _ hu).trans (by rw [e]; exact h.over)⟩, by unfold bH.Aj; rw [if_pos hu]⟩
  · rw [NG _ hu, hT, hr, Bool.true_and]
    unfold bH.jS RY
    rw [if_neg (by rw [hp]; simp), hp, hh] <;> rfl
  · rw [JZ _ hu, hT, hp]; rfl
def Si (s : bH) (r : Int) : bH := (s.gX.xX [r]).nV (s.gX.QC [r])
theorem Out.Si (h : Out s L pt G run) (h1 : 0 ≤ pt ∧ pt ≤ L.length) (h2 : L.length < 1024) (h3 : eY G [] < 16384) :
    Out (Si s r) (L.take pt.toNat ++ [r] ++ L.drop pt.toNat) (pt + 1) (RY G run (pt, [], [r])) true := by
  unfold Go.Proofs.YtddekefihgejoaaGreatDoor.Si
  rw [(h.begin.1.Va (r := r) h1 h2 h3).1]
  exact (h.begin.1.typed h1 h2 h3).1
theorem OZ (hi : s.inn = true) (hL : s.c.L = L) (hpt : s.c.pt = pt) (hG : s.here = G) (ho : s.c.over = false) (hp : s.put = []) (hc : s.cls = 0) : Out (s.nV 0) L pt G false := by
  have hT : s.typed = false := by unfold bH.typed; rw [hc]; rfl
  refine ⟨JY _ hi, (RZ _ hi).trans hL, (ND _ hi).trans hpt, ?_, ?_, (F7 _ hi).trans ho⟩
  · rw [NG _ hi]; unfold bH.jS; rw [if_pos hp]; exact hG
  · rw [JZ _ hi, hT]; rfl
theorem U9.end_ (h : U9 s L pt G run) : Out (s.nV 0) L pt G false := OZ h.inn h.L h.pt h.G h.over h.put h.cls
theorem Out.move (h : Out s L pt G run) (x : Int) (hx : 0 ≤ x ∧ x ≤ L.length) : Out ((s.gX.wM x).nV 0) L x G false := by
  have hb := h.begin.1
  refine U9.end_ (s := s.gX.wM x) (run := run) ?_
  unfold bH.wM
  rw [if_pos hb.inn]
  refine ⟨hb.inn, hb.L, ?_, hb.G, hb.run, hb.over, hb.put, hb.cls, hb.whole⟩
  show UG s.gX.c.L.length s.gX.c.pt x = x
  unfold UG
  rw [if_pos (by rw [hb.L]; omega)]
end
end Go.Proofs.YtddekefihgejoaaGreatDoor
end
section
namespace Go.Proofs.YtddekefihgejoaaGreatDoor
open Go.RowKit
open _root_.Go.Proofs.Tryz
def O4 : List lC := [(⟨#[109, 97, 107, 101]⟩, 0), (⟨#[108, 115]⟩, 0)]
def xJ : bH := U8 O4 [] 2 [] 0
theorem O5 : xJ.saved = [] := by
  have h0 : oW O4 xJ.c.tx 2 0 = false := by unfold oW fF; rw [show xJ.c.tx ((0 : Nat) : Int) = none from rfl]; simp [sJ]
  have h1 : oW O4 xJ.c.tx 2 1 = false := by unfold oW fF; rw [show xJ.c.tx ((1 : Nat) : Int) = none from rfl]; simp [sJ]
  show kY O4 xJ.c.tx 2 = []
  unfold kY jG
  rw [if_neg (by decide), List.append_nil, show List.range O4.length = [0, 1] from rfl, List.filter_cons_of_neg (by rw [h0]; decide), List.filter_cons_of_neg (by rw [h1]; decide)]
  rfl
theorem O6 : xJ.lines = [[109, 97, 107, 101], [108, 115], []] := by unfold bH.lines; rw [O5]; kernel_rfl
def L8 : SS := .start xJ.lines [] true xJ.c.place xJ.c.pt
theorem L9 : L8 = .start [[109, 97, 107, 101], [108, 115], []] [] true 2 0 := by unfold L8; rw [O6]; rfl
theorem Sj : L8.nS [109] = 0 := by rw [L9]; rfl
theorem AB : (L8.Eu [109]).now.place = 0 := by rw [L9]; rfl
theorem Sl : (L8.Eu [109]).now.at_ = 0 := by rw [L9]; rfl
theorem J3 : xJ.CU 0 0 = 0 := by rfl
theorem J4 : (xJ.zK 0 0).c.L = [109, 97, 107, 101] := by rfl
theorem Sm : (utf8 (xJ.zK 0 0).c.L).toList = (ByteArray.mk #[109, 97, 107, 101]).toList := by rw [J4]; exact congrArg ByteArray.toList (by rfl)
section
variable {w0 w : World} {F : HP}
theorem F8 (H : aB w0 w F) (hT : rZ w0) : gG prog 9 #[] w fun v w' => v = .bool true ∧ aB w0 w' F := by
 have hR9 : tV xJ.gX.c.L := fun n hn => by cases hn
 refine iF func9 ntmps9 ?_
 dsimp only [bg, Nat.reduceAdd]
 refine ay (ah (aW rfl (aA (aj (ay (ah ?_))))))
 refine aU (dF (zl := [.string .empty, .int .i64 0]) (pl := [(0, 1), (1, 1)]) [_, _] underlying84 zeroValue84 rfl (fun w => by kernel_rfl) rfl (.one (by first | rfl | assumption) (.zero (zs := [.int .i64 0]) rfl .nil)) rfl) ?_
 refine aU (dF (zl := [.string .empty, .int .i64 0]) (pl := [(0, 1), (1, 1)]) [_, _] underlying84 zeroValue84 rfl (fun w => by kernel_rfl) rfl (.one (by first | rfl | assumption) (.zero (zs := [.int .i64 0]) rfl .nil)) rfl) ?_
 refine iw (Oj H underlying24 sizeOf84 zeroValue84 rfl rfl rfl rfl rfl (by decide) (by decide)) ?_
 rintro l1 w1 H1
 refine aU (dF (zl := [.slice none 0 0, .slice none 0 0, .int .i64 0, .slice none 0 0, .int .i64 0]) (pl := [(0, 1), (1, 1), (2, 1), (3, 1), (4, 1)]) [_, _, _, _, _] underlying26 zeroValue26 rfl (fun w => by kernel_rfl) rfl (.one (Rd.one ((H1).aT)) (.zero (zs := [.slice none 0 0]) rfl (.one (by first | rfl | assumption) (.zero (zs := [.slice none 0 0]) rfl (.zero (zs := [.int .i64 0]) rfl .nil))))) rfl) ?_
 refine dH rfl func10 (OY (l := O4) (ln := []) (ty := []) H1 (fun W HW => HW.aT) (fun W _ => jc.nil W _ none 0 (by decide)) (fun W _ => jc.nil W _ none 0 (by decide)) (by decide) (by rfl) (by decide) hT (fun n hn => by cases hn)) ?_
 rintro _ w2 ⟨e2, rfl, H2⟩
 have WO := H2.f2.right
 refine aW rfl (aA (aj (ay (ay (ah (aI rfl (aU (iI underlying30 rfl rfl) (aA (aj (aP rfl (fun h => by exfalso; (try simp only [aG] at h); simp at h) (fun h1 => ?_)))))))))))
 (try simp only [aG] at h1)
 refine aO (aj (ay (ah (aI rfl (dH rfl func17 (LY (s := xJ) WO (fun W _ => jc.nil W _ none 0 (by decide)) (l := []) (by decide) hT) ?_)))))
 rintro _ w4 ⟨p4, rfl, H4⟩
 refine aI rfl (wU rfl rfl (wU rfl rfl (aW rfl (aW rfl (aA (aj (ay (ah (aI rfl (aU (Df underlying46 rfl rfl) (iM rfl (fun h2 => ?_) (fun h => by exfalso; (try simp only [aG] at h); simp at h))))))))))))
 (try simp only [aG] at h2)
 refine aY (aI rfl (aY (aU (gU rfl rfl) (fK rfl rfl (iM rfl (fun h3 => ?_) (fun h => by exfalso; (try simp only [aG] at h); simp at h))))))
 (try simp only [aG] at h3)
 refine aY (aI rfl (aY (iw (gI (k := .i32) (l := [109]) H4 underlying23 sizeOf21 zeroValue21 rfl rfl rfl (by decide)) ?_)))
 rintro l5 w5 H5
 refine aY (dH rfl func18 (LZ (S := L8) H5.f2 (fun W HW => (HW).aT) (l := [109]) (by decide) (by decide)) ?_)
 rintro _ w6 ⟨rfl, H6⟩
 refine aY (aU (gU rfl rfl) (fK rfl rfl (iM rfl (fun h4 => ?_) (fun h => by exfalso; (try simp only [aG] at h); exact h Sj))))
 (try simp only [aG] at h4)
 refine aY (aI rfl (aY (dH rfl func19 (Hy H6) ?_)))
 rintro _ w7 ⟨u7, rfl, H7⟩
 refine aY (aU (sS 3 underlying52 rfl rfl (bU underlying3 rfl) rfl rfl) (aY (aU (gU rfl rfl) (fK rfl rfl (iM rfl (fun h5 => ?_) (fun h => by exfalso; (try simp only [aG] at h); exact h AB))))))
 (try simp only [aG] at h5)
 refine aY (aI rfl (aY (aI rfl (aY (dH rfl func27 (EW (s := xJ) (S := L8.Eu [109]) H7.f2.f4 hT hR9) ?_)))))
 rintro _ w8 ⟨rfl, H8⟩
 refine aY (aU (gU rfl rfl) (fK rfl rfl (iM rfl (fun h6 => ?_) (fun h => by exfalso; (try simp only [aG] at h); rw [AB, Sl] at h; exact h J3))))
 (try simp only [aG] at h6)
 refine aY (aI rfl (aY (dH rfl func32 (Bv H8) ?_)))
 rintro _ w9 ⟨u9, rfl, H9⟩
 refine aY (aU (sS 0 underlying41 rfl rfl (bU underlying23 rfl) rfl rfl) (aY (aU (Iu underlying23 underlying9 underlying21 rfl ((H9).aT)) (aY ?_))))
 refine aU (NK (NM rfl rfl) (by rw [AB, Sl]; exact beq_iff_eq.2 Sm)) ?_
 refine fK rfl rfl (aW rfl (aA (aj (aK (aQ (.inl rfl) results9 rfl ?_)))))
 exact ⟨rfl, H9.right.right.right.right.right⟩
end
end Go.Proofs.YtddekefihgejoaaGreatDoor
end
