import Derived.Test.YtddekefihgejoaaGreatDoorZ2
import Derived.Test.YtddekefihgejoaaGreatDoorZ19
import Derived.Test.YtddekefihgejoaaGreatDoorZ9
import Derived.Test.YtddekefihgejoaaGreatDoorZ7
import Derived.Test.YtddekefihgejoaaGreatDoorZ15
import Derived.Test.YtddekefihgejoaaGreatDoorZ13
import Derived.Test.YtddekefihgejoaaGreatDoorZ12
set_option linter.unusedSimpArgs false
set_option linter.unusedVariables false
/- Texts of mine, joined, their names in short: IsD HistF IsMade ETyM IsBegun IsNone. -/
section
namespace Go.Proofs.YtddekefihgejoaaGreatDoor
open Go.RowKit
open _root_.Go.Proofs.Tryz
section
variable {w0 w : World} {F : HP} {p n n0 e old box : Nat} {S : SS} {s : bG} {v lv Lu pv qv uv : Value} {us ws : List Value} {l : List Int} {back : Bool} {at_ place : Int} {t u : O8}
theorem G6 (H : aB w0 w (iD p S • F)) : fE prog 19 #[.pointer (some ⟨p, 0, none⟩)] w fun v w' => ∃ u, v = .agg (Cc u S.now S.L.length).toArray ∧ aB w0 w' (gZ 21 .i32 u S.now.pat • iD p S • F) := by
 refine gy func19 ntmps19 ?_
 dsimp only [aY, Nat.reduceAdd]
 refine ay (ah (gq (bU (l := [_, _, _, _, _, _]) H zeroValue52 rfl) ?_))
 rintro _ w1 ⟨b1, rfl, H1⟩
 refine aA (aj (ay (ay (ah (aN rfl (dw rfl func60 (wM H1.f2) ?_))))))
 rintro _ _ ⟨rfl, rfl⟩
 refine aA (aj (pJ (aT (aj (ay ?_)))))
 obtain ⟨LD, Ef, LG, LH, LJ, LK, tJ, oI⟩ := (H1.f2).search
 have hpl := tJ.2.1
 refine ah (aN rfl (bP rfl (bg 2 underlying75 rfl sizeOf52 rfl (aU (oQ 2 (xs := [_, _, _, _, _, _]) underlying52 rfl sizeOf52 rfl rfl (oI).get.2 rfl) (gq (bU (l := [_, _, _, _, _, _]) oI zeroValue52 rfl) ?_)))))
 rintro _ w4 ⟨b4, rfl, H4⟩
 refine aG (bn 0 (l' := [_, _, _, _, _, _]) (us := [_, _, _, _, _, _]) H4 sizeOf52 rfl rfl rfl (aC (by first | rfl | exact Rd.one ((H4.f6).jE)) (aC (by first | rfl | assumption) (aC (by first | rfl | assumption) (aC (by first | rfl | assumption) (aC (by first | rfl | assumption) (aC (by first | rfl | assumption) aZ)))))) rfl rfl) ?_
 rintro _ w5 H5
 refine aA (aj (ay (ah (bg 0 underlying52 rfl sizeOf23 rfl (dO underlying23 rfl (H5).get.2 rfl (dw rfl func59 (kS H5 (fun W HW => (HW.f6).jE) (by omega)) ?_))))))
 rintro u6 w6 H6
 refine bg 0 underlying52 rfl sizeOf23 rfl (aG (aS 0 (l' := [_, _, _, _, _, _]) H6.f2 sizeOf23 rfl rfl (by first | rfl | exact Rd.one ((H6).aO)) rfl rfl) ?_)
 rintro _ w7 H7
 refine aA (aj (ay (ah (aU (bQ underlying52 rfl sizeOf52 rfl rfl (H7).get.2) (aG (bn 0 (l' := [_, _, _, _, _, _]) (us := [_, _, _, _, _, _]) H7.f10 sizeOf52 rfl rfl rfl (aC (by first | rfl | exact Rd.one ((H7.f2).aO)) (aC (by first | rfl | assumption) (aC (by first | rfl | assumption) (aC (by first | rfl | assumption) (aC (by first | rfl | assumption) (aC (by first | rfl | assumption) aZ)))))) rfl rfl) ?_)))))
 rintro _ w8 H8
 refine aA (aj (aJ ?_))
 refine jM (.inl rfl) (CX results19 rfl underlying52 rfl (by rw [show (prog.info? 52).map (·.size) = some 6 from by kernel_rfl]; rfl) (H8).get.2) ?_
 have Qw := H8.f10.f10.f10.f10.f10.f10.f10
 have Qx := aB.kC tJ Qw
 exact ⟨_, rfl, Qx.f2.right.f2.right.f2⟩
end
namespace bG
def zy (s : bG) (place : Int) : bG := if s.c.place = place then s else s.uN place
def oP (s : bG) (place at_ : Int) : Bool := decide (at_ < 0 ∨ ((s.zy place).c.L.length : Int) < at_)
def Ei (s : bG) (place at_ : Int) : Int := if s.c.place ≠ place ∧ s.lJ place ≠ 0 then s.lJ place else if s.oP place at_ then 6 else (s.zy place).E8 at_
def Ej (s : bG) (place at_ : Int) : bG := if s.c.place ≠ place ∧ s.lJ place ≠ 0 then s else if s.oP place at_ then s.zy place else (s.zy place).wH at_
def zA (s : bG) (place at_ : Int) : bG := if s.rE ≠ 0 then s else (s.gK.Ej place at_).nR (s.gK.Ei place at_)
def Ce (s : bG) (place at_ : Int) : Int := if s.rE ≠ 0 then s.rE else (s.gK.Ej place at_).zW (s.gK.Ei place at_)
end bG
section
variable {w0 w : World} {F : HP} {p n n0 e old box : Nat} {S : SS} {s : bG} {v lv Lu pv qv uv : Value} {us ws : List Value} {l : List Int} {back : Bool} {at_ place : Int} {t u : O8}
theorem JK (H : aB w0 w (dK e s • F)) (hT : tZ w0) (hR : tu s.c.L) : fE prog 68 #[.pointer (some ⟨e, 0, none⟩), .int .i64 place, .int .i64 at_] w fun v w' => v = .int .i64 (s.Ei place at_) ∧ aB w0 w' (dK e (s.Ej place at_) • F) := by
 refine gy func68 ntmps68 ?_
 dsimp only [aY, Nat.reduceAdd]
 refine ay (ah (aV rfl (aA (aj ?_))))
 refine rO [(0, _), (2, _)] (fun (_ : Unit) => []) (fun (_ : Unit) W => (¬ (s.c.place ≠ place ∧ s.lJ place ≠ 0)) ∧ aB w0 W (dK e (s.zy place) • F)) (Sub.cons rfl (Sub.cons rfl (Sub.nil _))) ?_ ?_
 ·rintro _ w1 ⟨hn1, HJ⟩
  dsimp only [List.cons_append, List.nil_append]
  refine ay (ay (ah (aN rfl (aU (eu rfl rfl) (jy rfl (fun h1 => ?_) (fun h1 => ?_))))))
  ·(try simp only [aI] at h1)
   refine bF (bF (bF (bF (bF (bF (jw rfl rfl (aA (aj (xg (ay (ah (aV rfl (aA (aj (aJ (aK (aQ (.inl rfl) results68 rfl ?_)))))))))))))))))
   have hb : s.oP place at_ = true := by unfold bG.oP; exact decide_eq_true (by omega)
   exact ⟨by unfold bG.Ei; rw [if_neg hn1, if_pos hb], by unfold bG.Ej; rw [if_neg hn1, if_pos hb]; exact HJ⟩
  ·(try simp only [aI] at h1)
   refine bC (aN rfl (bC (aN rfl (bC (dw rfl func32 (AY HJ) ?_)))))
   rintro _ w2 ⟨u2, rfl, H2⟩
   refine bC (aU (sH 0 underlying41 rfl rfl (bW underlying23 rfl) rfl rfl) (bC (aU (gG ((H2).aO) underlying23 rfl) ?_)))
   have WJ := H2.right
   refine bC (aU (fZ rfl rfl) (iU rfl rfl (aA (aj (aP rfl (fun h2 => ?_) (fun h2 => ?_))))))
   ·(try simp only [aI] at h2)
    have hb : s.oP place at_ = true := by unfold bG.oP; exact decide_eq_true (by omega)
    refine ay (ah (aV rfl (aA (aj (aJ (aK (aQ (.inl rfl) results68 rfl ?_)))))))
    have hb : s.oP place at_ = true := by unfold bG.oP; exact decide_eq_true (by omega)
    exact ⟨by unfold bG.Ei; rw [if_neg hn1, if_pos hb], by unfold bG.Ej; rw [if_neg hn1, if_pos hb]; exact WJ⟩
   ·(try simp only [aI] at h2)
    have hb : ¬ s.oP place at_ = true := by unfold bG.oP; rw [decide_eq_true_eq]; have h9 := h2; omega
    refine aT (aj (ay (ah (aN rfl (aN rfl (dw rfl func40 (AX WJ) ?_))))))
    rintro _ w4 ⟨rfl, H4⟩
    refine aV rfl (aA (aj (aJ (aQ (.inl rfl) results68 rfl ?_))))
    exact ⟨by unfold bG.Ei; rw [if_neg hn1, if_neg hb], by unfold bG.Ej; rw [if_neg hn1, if_neg hb]; exact H4⟩
 ·skip
  refine ay (ah (aN rfl (dw rfl func16 (vM H) ?_)))
  rintro _ w5 ⟨u5, ks5, us5, sv5, rfl, H5⟩
  refine aU (sH 12 underlying44 rfl rfl (bW underlying3 rfl) rfl rfl) (aN rfl (aU (dZ rfl rfl) ?_))
  have Hd6 := H5.right
  have TK := Hd6.right
  have Y7 := TK.right
  have WI := Y7.right
  refine aA (aj (aP rfl (fun h3 => ?_) (fun h3 => ?_)))
  ·(try simp only [aI] at h3)
   have hne : ¬ s.c.place = place := h3
   refine ay (ah (aN rfl (aN rfl (dw rfl func38 (Bf WI (by assumption) (by assumption)) ?_))))
   rintro _ w10 ⟨rfl, qH⟩
   refine aV rfl (aA (aj (ay (ah (aN rfl (aU (dZ rfl rfl) (aA (aj (aP rfl (fun h4 => ?_) (fun h4 => ?_))))))))))
   ·(try simp only [aI] at h4)
    have hg : s.lJ place ≠ 0 := h4
    have hge : s.uN place = s := by unfold bG.uN; rw [if_neg hg]
    refine ay (ah (aN rfl (aV rfl (aA (aj (aJ (aK (aQ (.inl rfl) results68 rfl ?_))))))))
    exact ⟨by unfold bG.Ei; rw [if_pos ⟨hne, hg⟩], by unfold bG.Ej; rw [if_pos ⟨hne, hg⟩]; rw [hge] at qH; exact qH⟩
   ·(try simp only [aI] at h4)
    have hg : s.lJ place = 0 := by have h9 := h4; simpa using h9
    have ht : s.zy place = s.uN place := by unfold bG.zy; rw [if_neg hne]
    have hn1 : ¬ (s.c.place ≠ place ∧ s.lJ place ≠ 0) := fun c => c.2 hg
    have HX := qH
    rw [← ht] at HX
    refine aT ?_
    refine bZ (()) ?_ ?_ ?_
    ·exact (Sub.nil _)
    ·exact (Sub.cons rfl (Sub.cons rfl (Sub.nil _)))
    ·(try dsimp only)
     first | done | exact ⟨hn1, HX⟩
  ·(try simp only [aI] at h3)
   have heq : s.c.place = place := by have h9 := h3; simpa using h9
   have ht : s.zy place = s := by unfold bG.zy; rw [if_pos heq]
   have hn1 : ¬ (s.c.place ≠ place ∧ s.lJ place ≠ 0) := fun c => c.1 heq
   have HX := WI
   rw [← ht] at HX
   refine aT ?_
   refine bZ (()) ?_ ?_ ?_
   ·exact (Sub.nil _)
   ·exact (Sub.cons rfl (Sub.cons rfl (Sub.nil _)))
   ·(try dsimp only)
    first | done | exact ⟨hn1, HX⟩
theorem EL (H : aB w0 w (dK e s • iD p S • F)) (hT : tZ w0) (hR : tu s.gK.c.L) : fE prog 27 #[.pointer (some ⟨p, 0, none⟩), .pointer (some ⟨e, 0, none⟩)] w fun v w' => v = .int .i64 (s.Ce S.now.place S.now.at_) ∧ aB w0 w' (dK e (s.zA S.now.place S.now.at_) • iD p S • F) := by
 refine gy func27 ntmps27 ?_
 dsimp only [aY, Nat.reduceAdd]
 refine ay (ah (aV rfl (aA (aj (ay (ay (ah (aN rfl (dw rfl func60 (wM H.f2) ?_)))))))))
 rintro _ _ ⟨rfl, rfl⟩
 refine aA (aj (pJ (aT (aj (ay (ay (ah (aN rfl (dw rfl func36 (qC H) ?_)))))))))
 rintro _ w2 ⟨rfl, H2⟩
 refine aV rfl (aA (aj (ay (ah (aN rfl (aU (dZ rfl rfl) (aA (aj (aP rfl (fun h1 => ?_) (fun h1 => ?_))))))))))
 ·(try simp only [aI] at h1)
  have hbe : s.rE ≠ 0 := h1
  have hbs : s.gK = s := by unfold bG.gK bG.rE at *; split at hbe <;> simp_all
  refine ay (ah (aN rfl (aV rfl (aA (aj (aJ (aK (aQ (.inl rfl) results27 rfl ?_))))))))
  exact ⟨by unfold bG.Ce; rw [if_pos hbe], by unfold bG.zA; rw [if_pos hbe]; rw [hbs] at H2; exact H2.f2.f2⟩
 ·(try simp only [aI] at h1)
  have hbe : ¬ s.rE ≠ 0 := by have h9 := h1; simpa using h9
  refine aT (aj (ay ?_))
  obtain ⟨LD, Ef, LG, LH, LJ, LK, tJ, oI⟩ := (H2.f2).search
  have YI := oI.drew
  have uP := aB.kp (YI.f8.f8.f8.f8.f8.f8.f8.f8)
  refine vV [6, 11] uP rfl (gQ 0 rfl uP rfl (gQ 1 rfl uP rfl (gQ 2 rfl uP rfl (iQ 3 rfl uP rfl (dR 4 rfl uP 2 underlying75 rfl sizeOf52 rfl (dR 5 rfl uP 3 underlying52 rfl sizeOf3 rfl (gY 6 rfl uP (fun W hW => iH underlying3 rfl ((Kp.h hW)).get.2 rfl) (gQ 7 rfl uP rfl (iQ 8 rfl uP rfl (dR 9 rfl uP 2 underlying75 rfl sizeOf52 rfl (dR 10 rfl uP 4 underlying52 rfl sizeOf3 rfl (gY 11 rfl uP (fun W hW => iH underlying3 rfl ((Kp.h hW)).get.2 rfl) (jk 12 rfl (rP rfl func68 (JK YI.f8 (by assumption) (by assumption))) ?_)))))))))))))
  rintro _ w4 ⟨rfl, H4⟩
  have uj := aB.kp (H4.f8.f8.f8.f8.f8.f8.f8.f8)
  refine dN uj (by kernel_rfl) ?_
  refine jk 13 rfl (rP rfl func37 (vJ H4)) ?_
  rintro _ w5 ⟨rfl, H5⟩
  have uq := aB.kp (H5.f8.f8.f8.f8.f8.f8.f8.f8)
  refine dN uq (by kernel_rfl) ?_
  refine iJ 14 rfl uq (fun _ => eP rfl) (nT (aj (aJ (aQ (.inl rfl) results27 rfl ?_))))
  have Qu := H5.f8.f8.f8.f8.f8.f8.f8
  have Oi := aB.kC tJ Qu
  exact ⟨by unfold bG.Ce; rw [if_neg hbe], by unfold bG.zA; rw [if_neg hbe]; exact Oi.f2⟩
end
end Go.Proofs.YtddekefihgejoaaGreatDoor
end
section
namespace Go.Proofs.YtddekefihgejoaaGreatDoor
open Go.RowKit
open _root_.Go.Proofs.Tryz
def xw (l : List kZ) : Int := if l.any (fun x => decide (16384 < x.1.size)) then 3 else if l.any (fun x => decide (x.2 < 0)) then 1 else 0
theorem RP {l : List kZ} {k : Nat} (hk : k < l.length) : l.getD k default ∈ l := by rw [List.getD_eq_getElem?_getD, List.getElem?_eq_getElem hk]; exact List.getElem_mem hk
theorem RQ {l : List kZ} {p : kZ → Prop} (h : ∀ k, k < l.length → p (l.getD k default)) : ∀ x ∈ l, p x := by
  intro x hx
  obtain ⟨k, hk, rfl⟩ := List.getElem_of_mem hx
  have := h k hk
  rwa [List.getD_eq_getElem?_getD, List.getElem?_eq_getElem hk] at this
theorem OT {l : List kZ} {k : Nat} (hk : k < l.length) (h : (16384 : Int) < (l.getD k default).1.size) : xw l = 3 := by
  unfold xw
  rw [if_pos (List.any_eq_true.2 ⟨_, RP hk, decide_eq_true (by omega)⟩)]
theorem Em {l : List kZ} (h1 : ∀ k, k < l.length → ¬ (16384 : Int) < (l.getD k default).1.size) : xw l = if l.any (fun x => decide (x.2 < 0)) then 1 else 0 := by
  unfold xw
  rw [if_neg]
  intro c
  obtain ⟨x, hx, hd⟩ := List.any_eq_true.1 c
  have := RQ (p := fun x => ¬ (16384 : Int) < x.1.size) h1 x hx
  simp at hd; omega
theorem RS {l : List kZ} (h1 : ∀ k, k < l.length → ¬ (16384 : Int) < (l.getD k default).1.size) {k : Nat} (hk : k < l.length) (h : (l.getD k default).2 < 0) : xw l = 1 := by
  rw [Em h1, if_pos (List.any_eq_true.2 ⟨_, RP hk, by simpa using h⟩)]
theorem Ur {l : List kZ} (h1 : ∀ k, k < l.length → ¬ (16384 : Int) < (l.getD k default).1.size) (h2 : ∀ k, k < l.length → ¬ (l.getD k default).2 < 0) : xw l = 0 := by
  rw [Em h1, if_neg]
  intro c
  obtain ⟨x, hx, hd⟩ := List.any_eq_true.1 c
  exact RQ (p := fun x => ¬ x.2 < 0) h2 x hx (by simpa using hd)
theorem RU {l : List kZ} (h : xw l = 0) : ∀ x ∈ l, Qz x := by
  intro x hx
  unfold xw at h
  split at h
  · simp at h
  · rename_i h1
    split at h
    · simp at h
    · rename_i h2
      simp only [List.any_eq_true, not_exists, not_and, decide_eq_true_eq] at h1 h2
      exact ⟨by have := h1 x hx; omega, by have := h2 x hx; omega⟩
theorem Ns (l : List kZ) (n : Nat) : (l.flatMap jH).drop (n * 2) = (l.drop n).flatMap jH := by
  induction l generalizing n with
  | nil => simp
  | cons x l ih =>
    cases n with
    | zero => simp
    | succ n => rw [show (n + 1) * 2 = n * 2 + 2 from by omega, List.flatMap_cons, List.drop_succ_cons, ← ih n]; simp [jH, List.drop_append]
theorem Us (l : List kZ) : (l.flatMap jH).length = l.length * 2 := by induction l with
  | nil => rfl
  | cons x l ih => rw [List.flatMap_cons, List.length_append, ih, uw, List.length_cons]; omega
theorem Ut {W : World} {v : Value} {l : List kZ} {n : Nat} (h : Rd W 2 v l.length (l.flatMap jH)) (hn : n ≤ l.length) : Rd W 2 (nG 2 n l.length v) (l.drop n).length ((l.drop n).flatMap jH) := by
  have h1 := h.cut hn (Nat.le_refl _)
  rw [List.take_of_length_le (by rw [Ns, Us]; simp), Ns] at h1
  rwa [List.length_drop]
section
variable {P : Program} {L : List (Nat × Value)} {w0 w : World} {F : HP} {p : Nat} {hl l : List kZ} {base most : Int} {v : Value}
theorem G9 (H : aB w0 w F) (hv : Ie w0 F 2 v l.length (l.flatMap jH)) (hb : l.length ≤ 35184372087808) : fE prog 123 #[v] w fun v' w' => v' = .int .i64 (xw l) ∧ aB w0 w' F := by
 refine gy func123 ntmps123 ?_
 dsimp only [aY, Nat.reduceAdd]
 refine ay (ah (aV rfl (aA (aj (ay (ay (ah (aN rfl (aU (fM (hv _ (H)) underlying24 rfl) (aN rfl (aA (aj (bf ?_)))))))))))))
 refine fH [(0, _), (7, _), (8, _)] (fun (k : Nat) => [(9, .int .i64 (k : Int))]) (fun (k : Nat) W => (k ≤ l.length ∧ ∀ i, i < k → ¬ (16384 : Int) < (l.getD i default).1.size) ∧ aB w0 W F) (fun (k : Nat) => l.length - k) (0) (Sub.cons rfl (Sub.cons rfl (Sub.cons rfl (Sub.nil _)))) (Sub.cons rfl (Sub.nil _)) ⟨⟨by omega, fun i hi => absurd hi (by omega)⟩, H⟩ ?_
 rintro k w1 ⟨⟨hk, hsh⟩, HL⟩
 dsimp only [List.cons_append, List.nil_append]
 refine ay (ah (aU (eu rfl rfl) (aA (aj (ay (aP rfl (fun h1 => ?_) (fun h1 => ?_)))))))
 ·(try simp only [aI] at h1)
  refine aT (aj (ay (bf (ay ?_))))
  have hkl : k < l.length := by omega
  refine ah ?_
  obtain ⟨bv, ov, cv, ev⟩ := Rd.lD (hv _ (HL)) (by omega)
  cases ev
  refine aU (cZ underlying24 sizeOf84 rfl rfl (by omega)) (aU (iR (ys := [_, _]) (hv _ (HL)) (by omega) underlying84 rfl sizeOf84 rfl (jY uw (by omega) default) rfl) (gq (bU (l := [_, _]) HL zeroValue84 rfl) ?_))
  rintro _ w2 ⟨b2, rfl, H2⟩
  refine aG (bn 0 (l' := [_, _]) (us := [_, _]) H2 sizeOf84 rfl rfl rfl (aC (by first | rfl | assumption) (aC (by first | rfl | assumption) aZ)) rfl rfl) ?_
  rintro _ w3 H3
  refine aA (aj (ay (ah (bg 0 underlying84 rfl sizeOf9 rfl (dO underlying9 rfl (H3).get.2 rfl (aU (NI underlying9 rfl) (aU (fZ rfl rfl) (aA (aj (aP rfl (fun h2 => ?_) (fun h2 => ?_)))))))))))
  ·(try simp only [aI] at h2)
   have hkb := h2
   refine ay (ah (aV rfl (aA (aj (aJ (aX (aK (aK (aX (aK (aQ (.inl rfl) results123 rfl ?_)))))))))))
   exact ⟨by rw [OT hkl hkb], H3.right⟩
  ·(try simp only [aI] at h2)
   have hks : ¬ (16384 : Int) < (l.getD k default).1.size := by have h9 := h2; omega
   refine aT (aH (aj (ah (aU (dS rfl rfl (by omega)) (aN rfl (aA ?_))))))
   refine dA (k + 1) ?_ ?_ ?_ ?_
   ·exact (Sub.cons rfl (Sub.nil _))
   ·exact (Sub.cons rfl (Sub.cons rfl (Sub.cons rfl (Sub.nil _))))
   ·(try dsimp only)
    first | done | exact ⟨⟨by omega, fun i hi => (show i < k ∨ i = k from by omega).elim (hsh i) (fun c => c ▸ hks)⟩, H3.right⟩
   ·(try dsimp only); omega
 ·(try simp only [aI] at h1)
  refine dL (aW (aW (bD (aj (ay (ay ?_))))))
  obtain rfl : k = l.length := by omega
  refine ah (aN rfl (aU (fM (hv _ (HL)) underlying24 rfl) (aN rfl (aA (aj (bf ?_))))))
  refine fH [(18, _), (19, _)] (fun (k2 : Nat) => [(20, .int .i64 (k2 : Int))]) (fun (k2 : Nat) W => (k2 ≤ l.length ∧ ∀ i, i < k2 → ¬ (l.getD i default).2 < 0) ∧ aB w0 W F) (fun (k2 : Nat) => l.length - k2) (0) (Sub.cons rfl (Sub.cons rfl (Sub.nil _))) (Sub.cons rfl (Sub.nil _)) ⟨⟨by omega, fun i hi => absurd hi (by omega)⟩, HL⟩ ?_
  rintro k2 w4 ⟨⟨hk2, hpo⟩, HL2⟩
  dsimp only [List.cons_append, List.nil_append]
  refine ay (ah (aU (eu rfl rfl) (aA (aj (ay (aP rfl (fun h3 => ?_) (fun h3 => ?_)))))))
  ·(try simp only [aI] at h3)
   refine aT (aj (ay (bf (ay ?_))))
   have hkl2 : k2 < l.length := by omega
   refine ah ?_
   obtain ⟨bv, ov, cv, ev⟩ := Rd.lD (hv _ (HL2)) (by omega)
   cases ev
   refine aU (cZ underlying24 sizeOf84 rfl rfl (by omega)) (aU (iR (ys := [_, _]) (hv _ (HL2)) (by omega) underlying84 rfl sizeOf84 rfl (jY uw (by omega) default) rfl) (gq (bU (l := [_, _]) HL2 zeroValue84 rfl) ?_))
   rintro _ w5 ⟨b5, rfl, H5⟩
   refine aG (bn 0 (l' := [_, _]) (us := [_, _]) H5 sizeOf84 rfl rfl rfl (aC (by first | rfl | assumption) (aC (by first | rfl | assumption) aZ)) rfl rfl) ?_
   rintro _ w6 H6
   refine aA (aj (ay (ah (bg 1 underlying84 rfl sizeOf2 rfl (dO underlying2 rfl (H6).get.2 rfl (aU (eu rfl rfl) (aA (aj (aP rfl (fun h4 => ?_) (fun h4 => ?_))))))))))
   ·(try simp only [aI] at h4)
    have hkn := h4
    refine ay (ah (aV rfl (aA (aj (aJ (aX (aK (aK (aX (aK (aQ (.inl rfl) results123 rfl ?_)))))))))))
    exact ⟨by rw [RS hsh hkl2 hkn], H6.right⟩
   ·(try simp only [aI] at h4)
    have hkp : ¬ (l.getD k2 default).2 < 0 := by have h9 := h4; omega
    refine aT (aH (aj (ah (aU (dS rfl rfl (by omega)) (aN rfl (aA ?_))))))
    refine dA (k2 + 1) ?_ ?_ ?_ ?_
    ·exact (Sub.cons rfl (Sub.nil _))
    ·exact (Sub.cons rfl (Sub.cons rfl (Sub.nil _)))
    ·(try dsimp only)
     first | done | exact ⟨⟨by omega, fun i hi => (show i < k2 ∨ i = k2 from by omega).elim (hpo i) (fun c => c ▸ hkp)⟩, H6.right⟩
    ·(try dsimp only); omega
  ·(try simp only [aI] at h3)
   refine dL (aW (aW (bD (aj (ay ?_)))))
   obtain rfl : k2 = l.length := by omega
   refine ah (aV rfl (aA (aj (aJ (aQ (.inl rfl) results123 rfl ?_)))))
   exact ⟨by rw [Ur hsh hpo], HL2⟩
def nZ (hl : List kZ) (most : Int) : Nat := hl.length - most.toNat
theorem Ah (H : aB w0 w (bY p (.cells #[v, .int .i64 base, .int .i64 most] 176 (0, 0)) • Row 84 2 v hl.length (hl.flatMap jH) • F)) (hm : 0 ≤ most ∧ most ≤ 4096) (hb : 1 ≤ base ∧ base ≤ 2305843009213693952) (hn : hl.length ≤ 70368744177664) :
  fE prog 124 #[.pointer (some ⟨p, 0, none⟩)] w fun _ w' => ∃ v', aB w0 w' (bY p (.cells #[v', .int .i64 (base + nZ hl most), .int .i64 most] 176 (0, 0)) • Row 84 2 v' (hl.drop (nZ hl most)).length ((hl.drop (nZ hl most)).flatMap jH) • F) := by
 refine gy func124 ntmps124 ?_
 dsimp only [aY, Nat.reduceAdd]
 refine ay ?_
 have OU := H.drew
 have sJ := aB.kp (OU.f2.f2)
 refine vV [4, 10] sJ rfl (gQ 0 rfl sJ rfl (iQ 1 rfl sJ rfl (dR 2 rfl sJ 0 underlying176 rfl sizeOf174 rfl (dR 3 rfl sJ 0 underlying174 rfl sizeOf24 rfl (gY 4 rfl sJ (fun W hW => iH underlying24 rfl ((Kp.h hW)).get.2 rfl) (iJ 5 rfl sJ (fun _ => fM ((OU.f2).aO) underlying24 rfl) (gQ 6 rfl sJ rfl (iQ 7 rfl sJ rfl (dR 8 rfl sJ 0 underlying176 rfl sizeOf174 rfl (dR 9 rfl sJ 2 underlying174 rfl sizeOf3 rfl (gY 10 rfl sJ (fun W hW => iH underlying3 rfl ((Kp.h hW)).get.2 rfl) (iJ 11 rfl sJ (fun _ => iW rfl rfl (by omega)) (iJ 12 rfl sJ (fun _ => eP rfl) (nT (aj (ay (ah (aN rfl (aU (fZ rfl rfl) (aA (aj (aP rfl (fun h1 => ?_) (fun h1 => ?_)))))))))))))))))))))))
 ·(try simp only [aI] at h1)
  have hk : (nZ hl most : Int) = (hl.length : Int) - most := by have h9 := h1; unfold nZ; omega
  refine ay (ah (aN rfl (aN rfl (bP rfl (bg 0 underlying176 rfl sizeOf174 rfl (bg 0 underlying174 rfl sizeOf24 rfl (dO underlying24 rfl (OU).get.2 rfl (aN rfl (aU (wz ((OU.f2).aO) underlying24 sizeOf84 rfl rfl rfl (by omega)) (dw rfl func104 (vF (hl := hl.drop (nZ hl most)) OU (fun W HW => by rw [show ((hl.length : Int) - most).toNat = nZ hl most from by omega, show ((hl.length : Nat) : Int).toNat = hl.length from by omega]; exact Ut HW.f2.aO (by unfold nZ; omega)) (by rw [List.length_drop]; unfold nZ; omega)) ?_))))))))))
  rintro u1 w1 H1
  refine bP rfl (bg 0 underlying176 rfl sizeOf174 rfl (bg 0 underlying174 rfl sizeOf24 rfl (aG (aS 0 (l' := [_, _, _]) H1.f2 sizeOf24 rfl rfl (by first | rfl | exact Rd.one ((H1).aO)) rfl rfl) ?_)))
  rintro _ w2 H2
  refine aA (aj (ah (aN rfl (bP rfl (bg 0 underlying176 rfl sizeOf174 rfl (bg 1 underlying174 rfl sizeOf2 rfl (dO underlying2 rfl (H2).get.2 rfl (aN rfl (aU (dS rfl rfl (by omega)) (bP rfl (bg 0 underlying176 rfl sizeOf174 rfl (bg 1 underlying174 rfl sizeOf2 rfl (aG (aS 1 (l' := [_, _, _]) H2 sizeOf2 rfl rfl (by first | rfl | assumption) rfl rfl) ?_)))))))))))))
  rintro _ w3 H3
  refine aA (fU (.inr rfl) results124 ?_)
  exact ⟨_, by rw [hk]; exact H3.f3.right.f2.f2⟩
 ·(try simp only [aI] at h1)
  have hk : nZ hl most = 0 := by have h9 := h1; unfold nZ; omega
  refine aT (fU (.inr rfl) results124 ?_)
  exact ⟨_, by rw [hk]; simpa using OU⟩
theorem YJ {hl l : List kZ} {base most : Int} (h : VA hl base most) (hb : hl.length + l.length ≤ 5864062014805) (hm : xw l = 0) (hbase : base ≤ 1152921504606846976) : VA ((hl ++ l).drop (nZ (hl ++ l) most)) (base + nZ (hl ++ l) most) most := by
  obtain ⟨h1, h2, h3, h4, h5, h6⟩ := h
  have hl1 : (hl ++ l).length = hl.length + l.length := List.length_append
  refine ⟨?_, ?_, ?_, ?_, h5, fun x hx => ?_⟩
  · rw [List.length_drop]; unfold nZ; omega
  · omega
  · unfold nZ; omega
  · rw [List.length_drop]; unfold nZ; omega
  · rcases List.mem_append.1 (List.mem_of_mem_drop hx) with c | c
    · exact h6 x c
    · exact RU hm x c
def Ee (hl : List kZ) (most : Int) (l : List kZ) : List kZ := if xw l = 0 then (hl ++ l).drop (nZ (hl ++ l) most) else hl
def RV (hl : List kZ) (base most : Int) (l : List kZ) : Int := if xw l = 0 then base + nZ (hl ++ l) most else base
theorem He (H : aB w0 w (dh p hl base most • F)) (hv : Ie w0 F 2 v l.length (l.flatMap jH)) (hb : hl.length + l.length ≤ 5864062014805) (hbase : base ≤ 1152921504606846976) :
  fE prog 76 #[.pointer (some ⟨p, 0, none⟩), v] w fun v' w' => v' = .int .i64 (xw l) ∧ aB w0 w' (dh p (Ee hl most l) (RV hl base most l) most • F) := by
 refine gy func76 ntmps76 ?_
 dsimp only [aY, Nat.reduceAdd]
 refine ay (ah (aV rfl (aA (aj (ay (ay (ah (aN rfl (dw rfl func103 (oN H) ?_)))))))))
 rintro _ _ ⟨rfl, rfl⟩
 refine aA (aj (pJ (aT (aj (ay (ay (ah (aN rfl (dw rfl func123 (G9 H (fun W HW => hv _ (HW.right)) (by omega)) ?_)))))))))
 rintro _ w2 ⟨rfl, H2⟩
 refine aV rfl (aA (aj (ay (ah (aN rfl (aU (dZ rfl rfl) (aA (aj (aP rfl (fun h1 => ?_) (fun h1 => ?_))))))))))
 ·(try simp only [aI] at h1)
  have hm := h1
  refine ay (ah (aN rfl (aV rfl (aA (aj (aJ (aK (aQ (.inl rfl) results76 rfl ?_))))))))
  exact ⟨rfl, by unfold Ee RV; rw [if_neg hm, if_neg hm]; exact H2⟩
 ·(try simp only [aI] at h1)
  have hm : xw l = 0 := h1
  refine aT (aj (ay ?_))
  obtain ⟨QA, uy, vG⟩ := (H2).hist
  have hkl := uy.1
  have hon := @MK l
  refine ah (aN rfl (aN rfl (bP rfl (bg 0 underlying176 rfl sizeOf174 rfl (bg 0 underlying174 rfl sizeOf24 rfl (dO underlying24 rfl (vG).get.2 rfl (aN rfl (gq (fF vG.f2 underlying24 (show (prog.info? 84).map (fun i => (i.zero, i.size, i.bytes)) = some (some (.agg #[.string .empty, .int .i64 0]), 2, 24) by kernel_rfl) rfl rfl rfl (hv _ (vG.right.right)) (by assumption) (by omega) (by omega)) ?_))))))))
  rintro l4 w4 H4
  refine bP rfl (bg 0 underlying176 rfl sizeOf174 rfl (bg 0 underlying174 rfl sizeOf24 rfl (aG (aS 0 (l' := [_, _, _]) H4.f2 sizeOf24 rfl rfl (by first | rfl | exact Rd.one ((H4).aO)) rfl rfl) ?_)))
  rintro _ w5 H5
  refine aA (aj (ay (ah (aN rfl (dw rfl func124 (Ah (hl := hl ++ l) (by rw [List.flatMap_append, List.length_append]; exact H5.f2.f2) ⟨by have := uy.2.2.2.1; omega, uy.2.2.2.2.1⟩ ⟨uy.2.1, by omega⟩ (by have := uy.1; rw [List.length_append]; omega)) ?_)))))
  rintro _ w6 ⟨v2, H6⟩
  refine aA (aj (ay (ah (aV rfl (aA (aj (aJ (aQ (.inl rfl) results76 rfl ?_))))))))
  exact ⟨by rw [hm], by unfold Ee RV; rw [if_pos hm, if_pos hm]; exact aB.qg (YJ uy hb hm hbase) H6⟩
theorem En {n : Int} (H : aB w0 w F) (hn : 0 ≤ n ∧ n ≤ 4096) (hv : Ie w0 F 2 v l.length (l.flatMap jH)) (hb : l.length ≤ 5864062014805) (hm : xw l = 0) : fE prog 33 #[.int .i64 n, v] w fun v' w' =>
  ∃ p, v' = .tuple #[.pointer (some ⟨p, 0, none⟩), .int .i64 0] ∧ aB w0 w' (dh p (Ee [] n l) (RV [] 1 n l) n • F) := by
 refine gy func33 ntmps33 ?_
 dsimp only [aY, Nat.reduceAdd]
 refine ay (ah (aV rfl (aV rfl (aA (aj (ay (ah (aN rfl (dw rfl func75 (Gu H (by omega)) ?_)))))))))
 rintro _ w1 ⟨p1, rfl, H1⟩
 refine aN rfl (yA rfl rfl (yA rfl rfl (aV rfl (aV rfl (aA (aj (ay (ay (ah (aN rfl (aU (dZ rfl rfl) (aA (aj (aP rfl (fun h => by exfalso; (try simp only [aI] at h); simp at h) (fun h1 => ?_)))))))))))))))
 (try simp only [aI] at h1)
 refine aT (aj (ay (ay (ah (aN rfl (aN rfl (dw rfl func76 (He H1 hv (by simp; omega) (by decide)) ?_)))))))
 rintro _ w2 ⟨rfl, H2⟩
 refine aV rfl (aA (aj (ay (ah (aN rfl (aU (dZ rfl rfl) (aA (aj (aP rfl (fun h => by exfalso; (try simp only [aI] at h); exact h hm) (fun h2 => ?_))))))))))
 (try simp only [aI] at h2)
 refine aT (aj (ay (ah (aN rfl (aV rfl (aV rfl (aA (aj (aJ (fV (.inl rfl) results33 rfl rfl ?_))))))))))
 exact ⟨_, rfl, H2⟩
end
def FK (l : List kZ) : List kZ := Ee [] 4096 l
def FM (l : List kZ) : Int := RV [] 1 4096 l
end Go.Proofs.YtddekefihgejoaaGreatDoor
end
section
namespace Go.Proofs.YtddekefihgejoaaGreatDoor
open Go.RowKit
open _root_.Go.Proofs.Tryz
namespace bG
variable (s : bG)
def YK (k : Int) : bG := (s.gK.uN k).nR (s.gK.lJ k)
def aa4 (l : List Int) : bG := (s.gK.Oo l).nR (s.gK.QB l)
def YL (x : Int) : bG := (s.gK.wH x).nR (s.gK.E8 x)
end bG
def Eo (l : List kZ) (ln : List Int) : bG := (bG.new (FK l) (FM l) 4096).GK (FK l) (FM l) 4096 ln
def U7 (l : List kZ) (ln : List Int) (place : Int) (ty : List Int) (pt : Int) : bG := (((Eo l ln).YK place).aa4 ty).YL pt
theorem Uu {l : List kZ} {ln : List Int} (h : ln.length ≤ 1024) : (Eo l ln).gK.c.L = ln := by
  have e : (bG.new (FK l) (FM l) 4096).pG ln = 0 := by unfold bG.pG; rw [if_neg (by rw [show (bG.new (FK l) (FM l) 4096).inn = false from rfl]; decide), if_neg (by omega)]
  unfold Eo bG.GK
  rw [if_pos e]
  rfl
theorem LQ (l : List kZ) (ln : List Int) : (bG.new (FK l) (FM l) 4096).pG ln = if 1024 < ln.length then 3 else 0 := by
  unfold bG.pG; rw [if_neg (by rw [show (bG.new (FK l) (FM l) 4096).inn = false from rfl]; decide)]
section
variable {w0 w : World} {F : HP} {l : List kZ} {hv lv tv : Value} {ln ty : List Int} {place pt : Int}
theorem FN (H : aB w0 w F) (q1 : Ie w0 F 2 hv l.length (l.flatMap jH)) (q2 : iT w0 F .i32 lv ln) (q3 : iT w0 F .i32 tv ty) (hb : l.length ≤ 5864062014805) (hm : xw l = 0) (hln : ln.length ≤ 1024) (hT : tZ w0) (hRL : tu ln) :
  fE prog 10 #[.agg #[hv, lv, .int .i64 place, tv, .int .i64 pt]] w fun v w' => ∃ e, v = .pointer (some ⟨e, 0, none⟩) ∧ aB w0 w' (dK e (U7 l ln place ty pt) • F) := by
 have hR2 : tu (Eo l ln).gK.c.L := by rw [Uu hln]; exact hRL
 refine gy func10 ntmps10 ?_
 dsimp only [aY, Nat.reduceAdd]
 refine ay (ah (gq (iw (l := [_, _, _, _, _]) H rfl rfl) ?_))
 rintro _ w1 ⟨b1, rfl, H1⟩
 refine aV rfl (aA (aj (ay (ah (bg 0 underlying26 rfl sizeOf24 rfl (dO underlying24 rfl (H1).get.2 rfl (dw rfl func33 (En H1 (by decide) (fun W HW => q1 _ (HW.right)) hb hm) ?_)))))))
 rintro _ w2 ⟨p2, rfl, H2⟩
 refine aN rfl (yA rfl rfl (yA rfl rfl (aV rfl (aV rfl (aA (aj (ay (ay (ah (aN rfl (aU (dZ rfl rfl) (aA (aj (aP rfl (fun h => by exfalso; (try simp only [aI] at h); simp at h) (fun h1 => ?_)))))))))))))))
 (try simp only [aI] at h1)
 refine aT (aj (ay (ah (aN rfl (dw rfl func34 (KX H2) ?_)))))
 rintro _ w3 ⟨e3, rfl, H3⟩
 refine aN rfl (yA rfl rfl (yA rfl rfl (aV rfl (aV rfl (aA (aj (ay (ay (ah (aN rfl (aU (dZ rfl rfl) (jy rfl (fun h => by exfalso; (try simp only [aI] at h); simp at h) (fun h2 => ?_)))))))))))))
 (try simp only [aI] at h2)
 refine bC (aN rfl (bC (aU (eF underlying30 rfl rfl) (iU rfl rfl (jy rfl (fun h => by exfalso; (try simp only [aI] at h); simp at h) (fun h3 => ?_))))))
 (try simp only [aI] at h3)
 refine bC (aN rfl (bC (aN rfl (bC (bg 1 underlying26 rfl sizeOf23 rfl (bC (dO underlying23 rfl (H3.f3).get.2 rfl (bC (dw rfl func35 (GL H3.f2.f2 (fun W HW => q2 _ (HW.right))) ?_)))))))))
 rintro _ w4 ⟨rfl, H4⟩
 refine bC (aU (dZ rfl rfl) (iU rfl rfl (aA (aj (aP rfl (fun h => by exfalso; (try simp only [aI] at h); have h9 := LQ l ln; rw [if_neg (by omega)] at h9; exact h h9) (fun h4 => ?_))))))
 (try simp only [aI] at h4)
 refine aT (aj (ay (ah (aN rfl (dw rfl func36 (qC (s := Eo l ln) H4) ?_)))))
 rintro _ w5 ⟨rfl, H5⟩
 refine aA (aj (ay (ah (aN rfl (aN rfl (bg 2 underlying26 rfl sizeOf3 rfl (dO underlying3 rfl (H5.f3).get.2 rfl (dw rfl func38 (Bf H5 (by assumption) (by assumption)) ?_))))))))
 rintro _ w6 ⟨rfl, H6⟩
 refine dw rfl func37 (vJ H6) ?_
 rintro _ w7 ⟨rfl, H7⟩
 refine aA (aj (ay (ah (aN rfl (dw rfl func36 (qC H7) ?_)))))
 rintro _ w8 ⟨rfl, H8⟩
 refine aA (aj (ay (ah (aN rfl (aN rfl (bg 3 underlying26 rfl sizeOf23 rfl (dO underlying23 rfl (H8.f3).get.2 rfl (dw rfl func39 (EG H8 (fun W HW => q3 _ (HW.right.right))) ?_))))))))
 rintro _ w9 ⟨rfl, H9⟩
 refine dw rfl func37 (vJ H9) ?_
 rintro _ w10 ⟨rfl, qH⟩
 refine aA (aj (ay (ah (aN rfl (dw rfl func36 (qC qH) ?_)))))
 rintro _ Hr ⟨rfl, uQ⟩
 refine aA (aj (ay (ah (aN rfl (aN rfl (bg 4 underlying26 rfl sizeOf3 rfl (dO underlying3 rfl (uQ.f3).get.2 rfl (dw rfl func40 (AX uQ) ?_))))))))
 rintro _ w12 ⟨rfl, uf⟩
 refine dw rfl func37 (vJ uf) ?_
 rintro _ NY ⟨rfl, xC⟩
 refine aA (aj (ay (ah (aN rfl (aV rfl (aA (aj (aJ (aQ (.inl rfl) results10 rfl ?_)))))))))
 exact ⟨_, rfl, xC.f2.right.f2.right⟩
end
end Go.Proofs.YtddekefihgejoaaGreatDoor
end
section
namespace Go.Proofs.YtddekefihgejoaaGreatDoor
open Go.RowKit
structure Out (s : bG) (L : List Int) (pt : Int) (G : List (List fB)) (run : Bool) : Prop where
  inn : s.inn = false
  L : s.c.L = L
  pt : s.c.pt = pt
  G : s.c.un s.c.place = G
  run : s.c.run = run
  over : s.c.over = false
structure U8 (s : bG) (L : List Int) (pt : Int) (G : List (List fB)) (run : Bool) : Prop where
  inn : s.inn = true
  L : s.c.L = L
  pt : s.c.pt = pt
  G : s.c.un s.c.place = G
  run : s.c.run = run
  over : s.c.over = false
  put : s.put = []
  cls : s.cls = 0
  whole : s.whole = true
section
variable {s : bG} {L : List Int} {pt : Int} {G : List (List fB)} {run : Bool} {r : Int}
theorem Out.begin (h : Out s L pt G run) : U8 s.gK L pt G run ∧ s.rE = 0 := by
  unfold bG.gK bG.rE
  rw [if_neg (by rw [h.inn]; decide), if_neg (by rw [h.inn]; decide)]
  exact ⟨⟨rfl, h.L, h.pt, h.G, h.run, h.over, rfl, rfl, rfl⟩, rfl⟩
def RX (G : List (List fB)) (run : Bool) (x : fB) : List (List fB) := if run then (match G.getLast? with | some g => G.dropLast ++ [g ++ [x]] | none => [[x]]) else G ++ [[x]]
theorem U8.U9 (h : U8 s L pt G run) (h1 : 0 ≤ pt ∧ pt ≤ L.length) (h2 : L.length < 1024) (h3 : eH G [] < 16384) :
    s.QC [r] = 0 ∧ s.xI [r] = { (s.jJ (L.take pt.toNat ++ [r] ++ L.drop pt.toNat) (pt + 1) (pR L s.c.mark pt pt [r])) with put := [(pt, [], [r])], cls := 3 } := by
  have hto : s.zX [r] = pt := by unfold bG.zX; rw [h.over]; exact h.pt
  have hE : kE L pt pt [r] = 0 := by unfold kE; rw [if_neg (by omega), if_neg (by simp; omega)]
  have hE' : s.oC s.c.pt (s.zX [r]) [r] = 0 := by unfold bG.oC; rw [if_pos h.inn, hto, h.pt, h.L]; exact hE
  have hP : pO L pt pt pt [r] = pt + 1 := by unfold pO bI; rw [if_pos hE, if_neg (by omega), if_pos (by omega)]; rfl
  have hD : jT L pt pt [r] = [] := by unfold jT; rw [if_pos hE]; simp
  have hI : jU L pt pt [r] = [r] := by unfold jU; rw [if_pos hE]
  have hA : oW L pt pt [r] = pt := by unfold oW; rw [if_pos hE]
  have hL : pK L pt pt [r] = L.take pt.toNat ++ [r] ++ L.drop pt.toNat := by unfold pK; rw [if_pos hE]
  have hS : s.su s.c.pt (s.zX [r]) [r] = { (s.jJ (L.take pt.toNat ++ [r] ++ L.drop pt.toNat) (pt + 1) (pR L s.c.mark pt pt [r])) with put := [(pt, [], [r])] } := by
    unfold bG.su
    rw [if_pos h.inn, hto, h.pt, h.L, hP, hD, hI, hA, hL]
    unfold bG.xH
    rw [if_neg (by simp), if_neg (by
      show ¬ 16384 ≤ eH (s.c.un s.c.place) s.put
      rw [h.G, h.put]; omega)]
    show _ = _
    unfold bG.jJ
    simp only [h.put, List.nil_append]
  refine ⟨hE', ?_⟩
  unfold bG.xI
  rw [if_pos h.inn]
  dsimp only
  rw [if_pos ⟨hE', h.cls⟩, hS]
theorem RY (u : bG) (h : u.inn = true) : (u.nR 0).c.L = u.c.L := by by_cases ha : u.argues = true <;> by_cases hp : u.put = [] <;> by_cases hc : u.cls = 2 <;> simp [bG.nR, bG.kV, bG.gI, bG.dB, bG.y9, bG.nP, bG.jP, bG.here, iC, ha, hp, hc, h]
theorem Nu (u : bG) (h : u.inn = true) : (u.nR 0).c.pt = u.c.pt := by by_cases ha : u.argues = true <;> by_cases hp : u.put = [] <;> by_cases hc : u.cls = 2 <;> simp [bG.nR, bG.kV, bG.gI, bG.dB, bG.y9, bG.nP, bG.jP, bG.here, iC, ha, hp, hc, h]
theorem FP (u : bG) (h : u.inn = true) : (u.nR 0).c.over = u.c.over := by by_cases ha : u.argues = true <;> by_cases hp : u.put = [] <;> by_cases hc : u.cls = 2 <;> simp [bG.nR, bG.kV, bG.gI, bG.dB, bG.y9, bG.nP, bG.jP, bG.here, iC, ha, hp, hc, h]
theorem JL (u : bG) (h : u.inn = true) : (u.nR 0).inn = false := by by_cases ha : u.argues = true <;> by_cases hp : u.put = [] <;> by_cases hc : u.cls = 2 <;> simp [bG.nR, bG.kV, bG.gI, bG.dB, bG.y9, bG.nP, bG.jP, bG.here, iC, ha, hp, hc, h]
theorem JM (u : bG) (h : u.inn = true) : (u.nR 0).c.run = (u.typed && (!u.put.isEmpty || u.c.run)) := by by_cases ha : u.argues = true <;> by_cases hp : u.put = [] <;> by_cases hc : u.cls = 2 <;> simp [bG.nR, bG.kV, bG.gI, bG.dB, bG.y9, bG.nP, bG.jP, bG.here, iC, ha, hp, hc, h]
theorem Nv (u : bG) (h : u.inn = true) : (u.nR 0).c.un (u.nR 0).c.place = u.jP (u.typed && u.c.run) := by by_cases ha : u.argues = true <;> by_cases hp : u.put = [] <;> by_cases hc : u.cls = 2 <;> simp [bG.nR, bG.kV, bG.gI, bG.dB, bG.y9, bG.nP, bG.jP, bG.here, iC, ha, hp, hc, h]
theorem U8.typed (h : U8 s L pt G run) (h1 : 0 ≤ pt ∧ pt ≤ L.length) (h2 : L.length < 1024) (h3 : eH G [] < 16384) :
    Out ((s.xI [r]).nR 0) (L.take pt.toNat ++ [r] ++ L.drop pt.toNat) (pt + 1) (RX G run (pt, [], [r])) true ∧ (s.xI [r]).zW 0 = 0 := by
  obtain ⟨_, e⟩ := h.U9 (r := r) h1 h2 h3
  have hu : (s.xI [r]).inn = true := by rw [e]; exact h.inn
  have hT : (s.xI [r]).typed = true := by rw [e]; show (((3 : Int) == 3) && s.whole) = true; rw [h.whole]; rfl
  have hp : (s.xI [r]).put = [(pt, [], [r])] := by rw [e]
  have hr : (s.xI [r]).c.run = run := by rw [e]; exact h.run
  have hh : (s.xI [r]).here = G := by rw [e]; exact h.G
  refine ⟨⟨JL _ hu, (RY _ hu).trans (by rw [e]; rfl), (Nu _ hu).trans (by rw [e]; rfl), ?_, ?_, (FP _ hu).trans (by rw [e]; exact h.over)⟩, by unfold bG.zW; rw [if_pos hu]⟩
  · rw [Nv _ hu, hT, hr, Bool.true_and]
    unfold bG.jP RX
    rw [if_neg (by rw [hp]; simp), hp, hh] <;> rfl
  · rw [JM _ hu, hT, hp]; rfl
def RZ (s : bG) (r : Int) : bG := (s.gK.xI [r]).nR (s.gK.QC [r])
theorem Out.RZ (h : Out s L pt G run) (h1 : 0 ≤ pt ∧ pt ≤ L.length) (h2 : L.length < 1024) (h3 : eH G [] < 16384) :
    Out (RZ s r) (L.take pt.toNat ++ [r] ++ L.drop pt.toNat) (pt + 1) (RX G run (pt, [], [r])) true := by
  unfold Go.Proofs.YtddekefihgejoaaGreatDoor.RZ
  rw [(h.begin.1.U9 (r := r) h1 h2 h3).1]
  exact (h.begin.1.typed h1 h2 h3).1
theorem OV (hi : s.inn = true) (hL : s.c.L = L) (hpt : s.c.pt = pt) (hG : s.here = G) (ho : s.c.over = false) (hp : s.put = []) (hc : s.cls = 0) : Out (s.nR 0) L pt G false := by
  have hT : s.typed = false := by unfold bG.typed; rw [hc]; rfl
  refine ⟨JL _ hi, (RY _ hi).trans hL, (Nu _ hi).trans hpt, ?_, ?_, (FP _ hi).trans ho⟩
  · rw [Nv _ hi]; unfold bG.jP; rw [if_pos hp]; exact hG
  · rw [JM _ hi, hT]; rfl
theorem U8.end_ (h : U8 s L pt G run) : Out (s.nR 0) L pt G false := OV h.inn h.L h.pt h.G h.over h.put h.cls
theorem Out.move (h : Out s L pt G run) (x : Int) (hx : 0 ≤ x ∧ x ≤ L.length) : Out ((s.gK.wH x).nR 0) L x G false := by
  have hb := h.begin.1
  refine U8.end_ (s := s.gK.wH x) (run := run) ?_
  unfold bG.wH
  rw [if_pos hb.inn]
  refine ⟨hb.inn, hb.L, ?_, hb.G, hb.run, hb.over, hb.put, hb.cls, hb.whole⟩
  show UF s.gK.c.L.length s.gK.c.pt x = x
  unfold UF
  rw [if_pos (by rw [hb.L]; omega)]
end
end Go.Proofs.YtddekefihgejoaaGreatDoor
end
section
namespace Go.Proofs.YtddekefihgejoaaGreatDoor
open Go.RowKit
open _root_.Go.Proofs.Tryz
def OW : List kZ := [(⟨#[109, 97, 107, 101]⟩, 0), (⟨#[108, 115]⟩, 0)]
def xA : bG := U7 OW [] 2 [] 0
theorem OX : xA.saved = [] := by
  have h0 : oO OW xA.c.tx 2 0 = false := by unfold oO eY; rw [show xA.c.tx ((0 : Nat) : Int) = none from rfl]; simp [rZ]
  have h1 : oO OW xA.c.tx 2 1 = false := by unfold oO eY; rw [show xA.c.tx ((1 : Nat) : Int) = none from rfl]; simp [rZ]
  show kU OW xA.c.tx 2 = []
  unfold kU jB
  rw [if_neg (by decide), List.append_nil, show List.range OW.length = [0, 1] from rfl, List.filter_cons_of_neg (by rw [h0]; decide), List.filter_cons_of_neg (by rw [h1]; decide)]
  rfl
theorem OY : xA.lines = [[109, 97, 107, 101], [108, 115], []] := by unfold bG.lines; rw [OX]; kernel_rfl
def LU : SS := .start xA.lines [] true xA.c.place xA.c.pt
theorem LV : LU = .start [[109, 97, 107, 101], [108, 115], []] [] true 2 0 := by unfold LU; rw [OY]; rfl
theorem Si : LU.nN [109] = 0 := by rw [LV]; rfl
theorem Ai : (LU.Ee [109]).now.place = 0 := by rw [LV]; rfl
theorem Sj : (LU.Ee [109]).now.at_ = 0 := by rw [LV]; rfl
theorem JO : xA.Ce 0 0 = 0 := by rfl
theorem JQ : (xA.zA 0 0).c.L = [109, 97, 107, 101] := by rfl
theorem Sl : (utf8 (xA.zA 0 0).c.L).toList = (ByteArray.mk #[109, 97, 107, 101]).toList := by rw [JQ]; exact congrArg ByteArray.toList (by rfl)
section
variable {w0 w : World} {F : HP}
theorem OZ (H : aB w0 w F) (hT : tZ w0) : fE prog 9 #[] w fun v w' => v = .bool true ∧ aB w0 w' F := by
 have hR9 : tu xA.gK.c.L := fun n hn => by cases hn
 refine gy func9 ntmps9 ?_
 dsimp only [aY, Nat.reduceAdd]
 refine ay (ah (aV rfl (aA (aj (ay (ah ?_))))))
 refine aU (cO (zl := [.string .empty, .int .i64 0]) (pl := [(0, 1), (1, 1)]) [_, _] underlying84 zeroValue84 rfl (fun w => by kernel_rfl) rfl (.one (by first | rfl | assumption) (.zero (zs := [.int .i64 0]) rfl .nil)) rfl) ?_
 refine aU (cO (zl := [.string .empty, .int .i64 0]) (pl := [(0, 1), (1, 1)]) [_, _] underlying84 zeroValue84 rfl (fun w => by kernel_rfl) rfl (.one (by first | rfl | assumption) (.zero (zs := [.int .i64 0]) rfl .nil)) rfl) ?_
 refine gq (Oe H underlying24 sizeOf84 zeroValue84 rfl rfl rfl rfl rfl (by decide) (by decide)) ?_
 rintro l1 w1 H1
 refine aU (cO (zl := [.slice none 0 0, .slice none 0 0, .int .i64 0, .slice none 0 0, .int .i64 0]) (pl := [(0, 1), (1, 1), (2, 1), (3, 1), (4, 1)]) [_, _, _, _, _] underlying26 zeroValue26 rfl (fun w => by kernel_rfl) rfl (.one (Rd.one ((H1).aO)) (.zero (zs := [.slice none 0 0]) rfl (.one (by first | rfl | assumption) (.zero (zs := [.slice none 0 0]) rfl (.zero (zs := [.int .i64 0]) rfl .nil))))) rfl) ?_
 refine dw rfl func10 (FN (l := OW) (ln := []) (ty := []) H1 (fun W HW => HW.aO) (fun W _ => iV.nil W _ none 0 (by decide)) (fun W _ => iV.nil W _ none 0 (by decide)) (by decide) (by rfl) (by decide) hT (fun n hn => by cases hn)) ?_
 rintro _ w2 ⟨e2, rfl, H2⟩
 have WJ := H2.f2.right
 refine aV rfl (aA (aj (ay (ay (ah (aN rfl (aU (eF underlying30 rfl rfl) (aA (aj (aP rfl (fun h => by exfalso; (try simp only [aI] at h); simp at h) (fun h1 => ?_)))))))))))
 (try simp only [aI] at h1)
 refine aT (aj (ay (ah (aN rfl (dw rfl func17 (LM (s := xA) WJ (fun W _ => iV.nil W _ none 0 (by decide)) (l := []) (by decide) hT) ?_)))))
 rintro _ w4 ⟨p4, rfl, H4⟩
 refine aN rfl (yA rfl rfl (yA rfl rfl (aV rfl (aV rfl (aA (aj (ay (ah (aN rfl (aU (uS underlying46 rfl rfl) (jy rfl (fun h2 => ?_) (fun h => by exfalso; (try simp only [aI] at h); simp at h))))))))))))
 (try simp only [aI] at h2)
 refine bC (aN rfl (bC (aU (iY rfl rfl) (jw rfl rfl (jy rfl (fun h3 => ?_) (fun h => by exfalso; (try simp only [aI] at h); simp at h))))))
 (try simp only [aI] at h3)
 refine bC (aN rfl (bC (gq (gB (k := .i32) (l := [109]) H4 underlying23 sizeOf21 zeroValue21 rfl rfl rfl (by decide)) ?_)))
 rintro l5 w5 H5
 refine bC (dw rfl func18 (LP (S := LU) H5.f2 (fun W HW => (HW).aO) (l := [109]) (by decide) (by decide)) ?_)
 rintro _ w6 ⟨rfl, H6⟩
 refine bC (aU (iY rfl rfl) (jw rfl rfl (jy rfl (fun h4 => ?_) (fun h => by exfalso; (try simp only [aI] at h); exact h Si))))
 (try simp only [aI] at h4)
 refine bC (aN rfl (bC (dw rfl func19 (G6 H6) ?_)))
 rintro _ w7 ⟨u7, rfl, H7⟩
 refine bC (aU (sH 3 underlying52 rfl rfl (bW underlying3 rfl) rfl rfl) (bC (aU (iY rfl rfl) (jw rfl rfl (jy rfl (fun h5 => ?_) (fun h => by exfalso; (try simp only [aI] at h); exact h Ai))))))
 (try simp only [aI] at h5)
 refine bC (aN rfl (bC (aN rfl (bC (dw rfl func27 (EL (s := xA) (S := LU.Ee [109]) H7.f2.f4 hT hR9) ?_)))))
 rintro _ w8 ⟨rfl, H8⟩
 refine bC (aU (iY rfl rfl) (jw rfl rfl (jy rfl (fun h6 => ?_) (fun h => by exfalso; (try simp only [aI] at h); rw [Ai, Sj] at h; exact h JO))))
 (try simp only [aI] at h6)
 refine bC (aN rfl (bC (dw rfl func32 (AY H8) ?_)))
 rintro _ w9 ⟨u9, rfl, H9⟩
 refine bC (aU (sH 0 underlying41 rfl rfl (bW underlying23 rfl) rfl rfl) (bC (aU (Ih underlying23 underlying9 underlying21 rfl ((H9).aO)) (bC ?_))))
 refine aU (ND (NG rfl rfl) (by rw [Ai, Sj]; exact beq_iff_eq.2 Sl)) ?_
 refine jw rfl rfl (aV rfl (aA (aj (aJ (aQ (.inl rfl) results9 rfl ?_)))))
 exact ⟨rfl, H9.right.right.right.right.right⟩
end
end Go.Proofs.YtddekefihgejoaaGreatDoor
end
section
namespace Go.Proofs.YtddekefihgejoaaGreatDoor
open Go.RowKit
open _root_.Go.Proofs.Tryz
def qF (w0 : World) (F : HP) (bv : Value) : Prop := ∀ (G : HP) (W : World), aB w0 W (G • F) → fE prog 60 #[bv] W fun v w' => v = .bool true ∧ W = w'
theorem O4 {w : World} : fE prog 60 #[.pointer none] w fun v w' => v = .bool true ∧ w = w' := by
 refine gy func60 ntmps60 ?_
 dsimp only [aY, Nat.reduceAdd]
 refine ay (ah (aV rfl (aA (aj (ay (ah (aN rfl (aU (eF underlying46 rfl rfl) (jy rfl (fun h1 => ?_) (fun h => by exfalso; (try simp only [aI] at h); simp at h))))))))))
 (try simp only [aI] at h1)
 refine bF (bF (bF (bF (bF (jw rfl rfl (aV rfl (aA (aj (aJ (aQ (.inl rfl) results60 rfl ?_))))))))))
 exact ⟨rfl, rfl⟩
section
variable {w0 w : World} {F G : HP} {bv v : Value} {x y : Int} {b : Bool}
theorem LW {b : Nat} {cs : Array Value} (H : aB w0 w (bY b (.cells cs 75 (0, 0)) • F)) (h : cs[0]? = some (.slice none 0 0)) : fE prog 60 #[.pointer (some ⟨b, 0, none⟩)] w fun v w' => v = .bool true ∧ w = w' := by
 refine gy func60 ntmps60 ?_
 dsimp only [aY, Nat.reduceAdd]
 refine ay (ah (aV rfl (aA (aj (ay (ah (aN rfl (aU (eF underlying46 rfl rfl) (jy rfl (fun h1 => ?_) (fun h1 => ?_))))))))))
 ·(try simp only [aI] at h1)
  try (exfalso; first | contradiction | omega)
  all_goals
   refine bF (bF (bF (bF (bF (jw rfl rfl (aV rfl (aA (aj (aJ (aQ (.inl rfl) results60 rfl ?_))))))))))
   exact ⟨rfl, rfl⟩
 ·(try simp only [aI] at h1)
  try (exfalso; first | contradiction | omega)
  all_goals
   refine bC (aN rfl (bC (bP rfl (bC (bg 0 underlying75 rfl sizeOf22 rfl (bC (dO underlying22 rfl H.get.2 h (bC (aU (jm underlying22 rfl rfl) (iU rfl rfl (aV rfl (aA (aj (aJ (aQ (.inl rfl) results60 rfl ?_)))))))))))))))
   exact ⟨rfl, rfl⟩
theorem sK (H : aB w0 w (G • F)) (hu : wY w0 F bv) : fE prog 13 #[bv] w fun v' w' => v' = .slice none 0 0 ∧ w = w' := by
 refine gy func13 ntmps13 ?_
 dsimp only [aY, Nat.reduceAdd]
 refine ay (ah (aV rfl (aA (aj (ay (ah (aN rfl (dw rfl func49 (EH H hu) ?_))))))))
 rintro _ _ ⟨rfl, rfl⟩
 refine aV rfl (aA (aj (ay (ay (ah (aN rfl (aU (eF underlying65 rfl rfl) (aA (aj (aP rfl (fun h1 => ?_) (fun h => by exfalso; (try simp only [aI] at h); simp at h)))))))))))
 (try simp only [aI] at h1)
 refine ay (ah (aV rfl (aA (aj (aJ (aK (aQ (.inl rfl) results13 rfl ?_)))))))
 exact ⟨rfl, rfl⟩
theorem O5 (H : aB w0 w (G • F)) (hu : wY w0 F bv) : fE prog 17 #[bv, .bool b, v] w fun v' w' => v' = .tuple #[.pointer none, .int .i64 2] ∧ w = w' := by
 refine gy func17 ntmps17 ?_
 dsimp only [aY, Nat.reduceAdd]
 refine ay (ah (aV rfl (aV rfl (aA (aj (ay (ah (aN rfl (dw rfl func13 (sK H hu) ?_)))))))))
 rintro _ _ ⟨rfl, rfl⟩
 refine aV rfl (aA (aj (ay (ay (ah (aN rfl (aU (jm underlying22 rfl rfl) (aA (aj (aP rfl (fun h1 => ?_) (fun h => by exfalso; (try simp only [aI] at h); simp at h)))))))))))
 (try simp only [aI] at h1)
 refine ay (ah (aV rfl (aV rfl (aA (aj (aJ (aK (fV (.inl rfl) results17 rfl rfl ?_))))))))
 exact ⟨rfl, rfl⟩
theorem JR (H : aB w0 w (G • F)) (hu : wY w0 F bv) (hv : v.oneCell' = true) : fE prog 24 #[bv, v, .bool b] w fun v' w' => v' = .int .i64 2 ∧ aB w0 w' (G • F) := by
 refine gy func24 ntmps24 ?_
 dsimp only [aY, Nat.reduceAdd]
 refine ay (ah (gq (iw (l := [_]) H rfl (by first | rfl | exact tK (by first | rfl | assumption))) ?_))
 rintro _ w1 ⟨b1, rfl, H1⟩
 refine aV rfl (aA (aj (ay (ah (aN rfl (dw rfl func13 (sK (H1.g2) hu) ?_))))))
 rintro _ _ ⟨rfl, rfl⟩
 refine aV rfl (aA (aj (ay (ay (ah (aN rfl (aU (jm underlying22 rfl rfl) (aA (aj (aP rfl (fun h1 => ?_) (fun h => by exfalso; (try simp only [aI] at h); simp at h)))))))))))
 (try simp only [aI] at h1)
 refine ay (ah (aV rfl (aA (aj (aJ (aK (aQ (.inl rfl) results24 rfl ?_)))))))
 exact ⟨rfl, H1.right⟩
theorem Hf (H : aB w0 w (G • F)) (hu : wY w0 F bv) : fE prog 25 #[bv, .bool b] w fun v' w' => v' = .int .i64 2 ∧ aB w0 w' (G • F) := by
 refine gy func25 ntmps25 ?_
 dsimp only [aY, Nat.reduceAdd]
 refine ay (ah (aV rfl (aA (aj (ay (ah (aN rfl (dw rfl func13 (sK H hu) ?_))))))))
 rintro _ _ ⟨rfl, rfl⟩
 refine aV rfl (aA (aj (ay (ay (ah (aN rfl (aU (jm underlying22 rfl rfl) (aA (aj (aP rfl (fun h1 => ?_) (fun h => by exfalso; (try simp only [aI] at h); simp at h)))))))))))
 (try simp only [aI] at h1)
 refine ay (ah (aV rfl (aA (aj (aJ (aK (aQ (.inl rfl) results25 rfl ?_)))))))
 exact ⟨rfl, H⟩
theorem JU (H : aB w0 w (G • F)) (hu : qF w0 F bv) : fE prog 19 #[bv] w fun v' w' => v' = .agg (Cc (.slice none 0 0) ⟨[], false, false, 0, 0⟩ 0).toArray ∧ aB w0 w' (G • F) := by
 refine gy func19 ntmps19 ?_
 dsimp only [aY, Nat.reduceAdd]
 refine ay (ah (gq (bU (l := [_, _, _, _, _, _]) H zeroValue52 rfl) ?_))
 rintro _ w1 ⟨b1, rfl, H1⟩
 refine aA (aj (ay (ay (ah (aN rfl (dw rfl func60 (hu _ _ (H1.g2)) ?_))))))
 rintro _ _ ⟨rfl, rfl⟩
 refine aA (aj (xg (ay (ah (aU (cO (zl := [.slice none 0 0, .bool false, .bool false, .int .i64 0, .int .i64 0, .int .i64 0]) (pl := [(0, 1), (1, 1), (2, 1), (3, 1), (4, 1), (5, 1)]) [_, _, _, _, _, _] underlying52 zeroValue52 rfl (fun w => by kernel_rfl) rfl (.zero (zs := [.slice none 0 0]) rfl (.zero (zs := [.bool false]) rfl (.zero (zs := [.bool false]) rfl (.zero (zs := [.int .i64 0]) rfl (.zero (zs := [.int .i64 0]) rfl (.zero (zs := [.int .i64 0]) rfl .nil)))))) rfl) (aG (bn 0 (l' := [_, _, _, _, _, _]) (us := [_, _, _, _, _, _]) H1 sizeOf52 rfl rfl rfl (aC (by first | rfl | assumption) (aC (by first | rfl | assumption) (aC (by first | rfl | assumption) (aC (by first | rfl | assumption) (aC (by first | rfl | assumption) (aC (by first | rfl | assumption) aZ)))))) rfl rfl) ?_))))))
 rintro _ w3 H3
 refine aA (aj (aJ (aK ?_)))
 refine jM (.inl rfl) (CX results19 rfl underlying52 rfl (by rw [show (prog.info? 52).map (·.size) = some 6 from by kernel_rfl]; rfl) (H3).get.2) ?_
 exact ⟨rfl, H3.right⟩
theorem LX (H : aB w0 w (G • F)) (hu : qF w0 F bv) : fE prog 20 #[bv] w fun v' w' => v' = .agg (lU (.slice none 0 0) 0 0) ∧ aB w0 w' (G • F) := by
 refine gy func20 ntmps20 ?_
 dsimp only [aY, Nat.reduceAdd]
 refine ay (ah (gq (bU (l := [_, _, _]) H zeroValue41 rfl) ?_))
 rintro _ w1 ⟨b1, rfl, H1⟩
 refine aA (aj (ay (ay (ah (aN rfl (dw rfl func60 (hu _ _ (H1.g2)) ?_))))))
 rintro _ _ ⟨rfl, rfl⟩
 refine aA (aj (xg (ay (ah (aU (cO (zl := [.slice none 0 0, .int .i64 0, .int .i64 0]) (pl := [(0, 1), (1, 1), (2, 1)]) [_, _, _] underlying41 zeroValue41 rfl (fun w => by kernel_rfl) rfl (.zero (zs := [.slice none 0 0]) rfl (.zero (zs := [.int .i64 0]) rfl (.zero (zs := [.int .i64 0]) rfl .nil))) rfl) (aG (bn 0 (l' := [_, _, _]) (us := [_, _, _]) H1 sizeOf41 rfl rfl rfl (aC (by first | rfl | assumption) (aC (by first | rfl | assumption) (aC (by first | rfl | assumption) aZ))) rfl rfl) ?_))))))
 rintro _ w3 H3
 refine aA (aj (aJ (aK ?_)))
 refine jM (.inl rfl) (CX results20 rfl underlying41 rfl (by rw [show (prog.info? 41).map (·.size) = some 3 from by kernel_rfl]; rfl) (H3).get.2) ?_
 exact ⟨rfl, H3.right⟩
theorem O6 (H : aB w0 w (G • F)) (hu : qF w0 F bv) : fE prog 18 #[bv, v] w fun v' w' => v' = .int .i64 2 ∧ w = w' := by
 refine gy func18 ntmps18 ?_
 dsimp only [aY, Nat.reduceAdd]
 refine ay (ah (aV rfl (aA (aj (ay (ay (ah (aN rfl (dw rfl func60 (hu _ _ H) ?_)))))))))
 rintro _ _ ⟨rfl, rfl⟩
 refine aA (aj (xg (ay (ah (aV rfl (aA (aj (aJ (aK (aQ (.inl rfl) results18 rfl ?_))))))))))
 exact ⟨rfl, rfl⟩
theorem JV (H : aB w0 w (G • F)) (hu : qF w0 F bv) : fE prog 26 #[bv, .bool b] w fun v' w' => v' = .int .i64 2 ∧ w = w' := by
 refine gy func26 ntmps26 ?_
 dsimp only [aY, Nat.reduceAdd]
 refine ay (ah (aV rfl (aA (aj (ay (ay (ah (aN rfl (dw rfl func60 (hu _ _ H) ?_)))))))))
 rintro _ _ ⟨rfl, rfl⟩
 refine aA (aj (xg (ay (ah (aV rfl (aA (aj (aJ (aK (aQ (.inl rfl) results26 rfl ?_))))))))))
 exact ⟨rfl, rfl⟩
theorem LY (H : aB w0 w (G • F)) (hu : qF w0 F bv) : fE prog 21 #[bv] w fun v' w' => v' = .int .i64 2 ∧ w = w' := by
 refine gy func21 ntmps21 ?_
 dsimp only [aY, Nat.reduceAdd]
 refine ay (ah (aV rfl (aA (aj (ay (ay (ah (aN rfl (dw rfl func60 (hu _ _ H) ?_)))))))))
 rintro _ _ ⟨rfl, rfl⟩
 refine aA (aj (xg (ay (ah (aV rfl (aA (aj (aJ (aK (aQ (.inl rfl) results21 rfl ?_))))))))))
 exact ⟨rfl, rfl⟩
theorem Hg (H : aB w0 w (G • F)) (hu : qF w0 F bv) : fE prog 27 #[bv, v] w fun v' w' => v' = .int .i64 2 ∧ w = w' := by
 refine gy func27 ntmps27 ?_
 dsimp only [aY, Nat.reduceAdd]
 refine ay (ah (aV rfl (aA (aj (ay (ay (ah (aN rfl (dw rfl func60 (hu _ _ H) ?_)))))))))
 rintro _ _ ⟨rfl, rfl⟩
 refine aA (aj (xg (ay (ah (aV rfl (aA (aj (aJ (aK (aQ (.inl rfl) results27 rfl ?_))))))))))
 exact ⟨rfl, rfl⟩
theorem Hl (H : aB w0 w (G • F)) (hu : qF w0 F bv) : fE prog 28 #[bv] w fun v' w' => v' = .slice none 0 0 ∧ w = w' := by
 refine gy func28 ntmps28 ?_
 dsimp only [aY, Nat.reduceAdd]
 refine ay (ah (aV rfl (aA (aj (ay (ay (ah (aN rfl (dw rfl func60 (hu _ _ H) ?_)))))))))
 rintro _ _ ⟨rfl, rfl⟩
 refine aA (aj (xg (ay (ah (aV rfl (aA (aj (aJ (aK (aQ (.inl rfl) results28 rfl ?_))))))))))
 exact ⟨rfl, rfl⟩
theorem JW (H : aB w0 w (G • F)) (hu : qF w0 F bv) : fE prog 29 #[bv] w fun v' w' => v' = .pointer none ∧ w = w' := by
 refine gy func29 ntmps29 ?_
 dsimp only [aY, Nat.reduceAdd]
 refine ay (ah (aV rfl (aA (aj (ay (ay (ah (aN rfl (dw rfl func60 (hu _ _ H) ?_)))))))))
 rintro _ _ ⟨rfl, rfl⟩
 refine aA (aj (xg (ay (ah (aV rfl (aA (aj (aJ (aK (aQ (.inl rfl) results29 rfl ?_))))))))))
 exact ⟨rfl, rfl⟩
end
end Go.Proofs.YtddekefihgejoaaGreatDoor
end
