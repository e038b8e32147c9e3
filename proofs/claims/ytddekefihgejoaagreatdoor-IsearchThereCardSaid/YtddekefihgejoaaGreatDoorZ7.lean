import Derived.Test.YtddekefihgejoaaGreatDoorZ2
import Derived.Test.YtddekefihgejoaaGreatDoorZ6
import Derived.Test.YtddekefihgejoaaGreatDoorZ4
import Derived.Test.YtddekefihgejoaaGreatDoorZ5
import Derived.Test.YtddekefihgejoaaGreatDoorZ3
set_option linter.unusedSimpArgs false
set_option linter.unusedVariables false
/- Texts of mine, joined, their names in short: LineP Move BLive Same Apply BufP Ring Ring2 Ring3 RingAny LL Flat Undo1 Undo2 LitS Eds. -/
section
namespace Go.Proofs.YtddekefihgejoaaGreatDoor
open Go.RowKit
open _root_.Go.Proofs.Tryz
def UG (n : Nat) (pt x : Int) : Int := if 0 ≤ x ∧ x ≤ n then x else pt
def Xj (n : Nat) (x : Int) : Int := if 0 ≤ x ∧ x ≤ n then 0 else 70
def oG (v : Value) (pt mk : Int) : Array Value := #[v, .int .i64 pt, .int .i64 mk]
theorem Oc {v : Value} {pt mk : Int} (h : v.oneCell' = true) : ∀ u ∈ (oG v pt mk).toList, u.oneCell' = true := by
  intro u hu
  simp [oG] at hu
  rcases hu with rfl | rfl | rfl
  · exact h
  · rfl
  · rfl
section
variable {w0 w : World} {F : HP} {p : Nat} {L : List Int} {pt mk x : Int} {v : Value} {l : List Int}
theorem Gs (H : aB w0 w (dM p L pt mk • F)) : gG prog 90 #[.pointer (some ⟨p, 0, none⟩), .int .i64 x] w fun v w' => v = .int .i64 (Xj L.length x) ∧ aB w0 w' (dM p L (UG L.length pt x) mk • F) := by
 refine iF func90 ntmps90 ?_
 dsimp only [bg, Nat.reduceAdd]
 refine ay (ah (aW rfl (aA (aj (ay (bf (ay (ah (aI rfl (dH rfl func139 (nP H) ?_))))))))))
 rintro _ _ ⟨rfl, rfl⟩
 refine aW rfl (aA (aj (aP rfl (fun h1 => ?_) (fun h1 => ?_))))
 ·(try simp only [aG] at h1)
  exfalso; first | contradiction | omega
 ·(try simp only [aG] at h1)
  try (exfalso; first | contradiction | omega)
  all_goals
   refine ay (ah (aI rfl (aU (dB rfl rfl) (iM rfl (fun h2 => ?_) (fun h2 => ?_)))))
   ·(try simp only [aG] at h2)
    try (exfalso; first | contradiction | omega)
    all_goals
     refine aZ (aZ (aZ (aZ (fK rfl rfl (aW rfl (aA (aj (zM (ay (ah (aW rfl (aA (aj (aK (aX (aN (aQ (.inl rfl) results90 rfl ?_)))))))))))))))))
     exact ⟨by rw [Xj, if_neg (by omega)], by rw [UG, if_neg (by omega)]; exact H⟩
   ·(try simp only [aG] at h2)
    try (exfalso; first | contradiction | omega)
    all_goals
     refine aY (aI rfl (aY (aI rfl (aY (dH rfl func140 (su H) ?_)))))
     rintro _ w2 ⟨rfl, hD⟩
     have HL := H.yO hD
     refine aY (aU (fB rfl rfl) (fC rfl rfl (aW rfl (aA (aj (aP rfl (fun h3 => ?_) (fun h3 => ?_)))))))
     ·(try simp only [aG] at h3)
      try (exfalso; first | contradiction | omega)
      all_goals
       refine ay (ah (aW rfl (aA (aj (aK (aX (aN (aQ (.inl rfl) results90 rfl ?_))))))))
       exact ⟨by rw [Xj, if_neg (by omega)], by rw [UG, if_neg (by omega)]; exact HL⟩
     ·(try simp only [aG] at h3)
      try (exfalso; first | contradiction | omega)
      all_goals
       refine aO (aH (aj (ay ?_)))
       obtain ⟨a, c, xs, f, t, h11, h12, h13, h14, h15, h16, h17, hc1, hc2, hl, HB⟩ := HL.buf
       refine ah (aI rfl (aI rfl (bQ rfl (bC 4 underlying208 rfl sizeOf3 rfl (aJ (fM HB sizeOf3 rfl rfl rfl (by rw [iY]; decide)) ?_)))))
       rintro _ w3 H3
       rw [tu] at H3
       refine aA (aj (ay (ah (aW rfl (aA (aj (aK (aQ (.inl rfl) results90 rfl ?_))))))))
       exact ⟨by rw [Xj, if_pos (by omega)], by rw [UG, if_pos (by omega)]; exact aB.kG h11 h12 h13 h14 h15 (by omega) h17 H3⟩
theorem y7 (H : aB w0 w (dM p L pt mk • F)) : gG prog 74 #[.pointer (some ⟨p, 0, none⟩)] w fun v' w' => ∃ u, v' = .agg (oG u pt mk) ∧ aB w0 w' (iD 21 .i32 u L • dM p L pt mk • F) := by
 refine iF func74 ntmps74 ?_
 dsimp only [bg, Nat.reduceAdd]
 refine ay (ah (iw (uY H zeroValue41) ?_))
 rintro _ w1 ⟨b1, rfl, H1⟩
 refine aA (aj (ay (ah (aI rfl (dH rfl func121 (nO H1.swap) ?_)))))
 rintro u w2 H2
 obtain ⟨au, cu, hu, _⟩ := (H2.aT).form
 subst hu
 refine aI rfl (dH rfl func89 (tC H2.swap) ?_)
 rintro _ _ ⟨rfl, rfl⟩
 refine aI rfl (dH rfl func122 (Gn H2.swap) ?_)
 rintro _ _ ⟨rfl, rfl⟩
 refine aU (fO (pl := #[(0, 1), (1, 1), (2, 1)]) (oG (.slice au L.length cu) pt mk) underlying41 zeroValue41 (fun w => by kernel_rfl) rfl (by kernel_rfl)) (aJ (dD (cs := oG (.slice au L.length cu) pt mk) H2.Ii sizeOf41 rfl rfl rfl rfl (Oc rfl)) ?_)
 rintro _ w5 H5
 refine aA (aj (aK ?_))
 refine Ti (.inl rfl) results74 rfl underlying41 rfl (by rw [show (prog.info? 41).map (·.size) = some 3 from by kernel_rfl]; rfl) H5.get.2 ?_
 exact ⟨_, rfl, H5.right⟩
end
end Go.Proofs.YtddekefihgejoaaGreatDoor
end
section
namespace Go.Proofs.YtddekefihgejoaaGreatDoor
open Go.RowKit
def P5 (g : Int → Bool) (l : List Int) (at_ : Nat) : Nat := at_ + ((l.drop at_).takeWhile g).length
def P6 (g : Int → Bool) (l : List Int) (at_ : Nat) : Nat := at_ - ((l.take at_).reverse.takeWhile g).length
def y8 (n : Nat) (x : Int) : Nat := (min (max x 0) n).toNat
section
variable {w0 w : World} {F G : HP} {v fv : Value} {l : List Int} {g : Int → Bool}
def Xk (l : List Int) (x : Int) : Nat := P5 CB l (P5 (fun r => !CB r) l (y8 l.length x))
def Vp (l : List Int) (x : Int) : Nat := P6 CB l (P6 (fun r => !CB r) l (y8 l.length x))
def MJ (r : Int) : Bool := decide (PE r ≠ 0) || Iz r
def abb (l : List Int) (x : Int) : Nat := if y8 l.length x < l.length then P5 (fun r => !MJ r) l (y8 l.length x + 1) else l.length
def abd (l : List Int) (x : Int) : Nat := P6 (fun r => !MJ r) l (y8 l.length x) - 1
end
end Go.Proofs.YtddekefihgejoaaGreatDoor
end
section
namespace Go.Proofs.YtddekefihgejoaaGreatDoor
open Go.RowKit
section
variable {w0 w : World} {F : HP} {p : Nat} {L : List Int} {pt mk : Int} {v : Value} {l : List Int}
end
end Go.Proofs.YtddekefihgejoaaGreatDoor
end
section
namespace Go.Proofs.YtddekefihgejoaaGreatDoor
open Go.RowKit
end Go.Proofs.YtddekefihgejoaaGreatDoor
end
section
namespace Go.Proofs.YtddekefihgejoaaGreatDoor
open Go.RowKit
section
variable {w0 w : World} {F : HP} {p : Nat} {L : List Int} {pt mk a : Int} {d i : Value} {dl il : List Int}
end
end Go.Proofs.YtddekefihgejoaaGreatDoor
end
section
namespace Go.Proofs.YtddekefihgejoaaGreatDoor
open Go.RowKit
open _root_.Go.Proofs.Tryz
def kH (L : List Int) (i j : Int) (l : List Int) : Int := if i < 0 ∨ L.length < i ∨ j < i ∨ L.length < j then 70 else if 1024 < L.length - (j - i) + l.length then 3 else 0
def pY (L : List Int) (i j : Int) (l : List Int) : List Int := if kH L i j l = 0 then L.take i.toNat ++ l ++ L.drop j.toNat else L
def qc (L : List Int) (pt i j : Int) (l : List Int) : Int := if kH L i j l = 0 then bJ pt i j l.length else pt
def qg (L : List Int) (mk i j : Int) (l : List Int) : Int := if kH L i j l = 0 then bK mk i j l.length else mk
def pG (L : List Int) (i j : Int) (l : List Int) : Int := if kH L i j l = 0 then i else 0
def jW (L : List Int) (i j : Int) (l : List Int) : List Int := if kH L i j l = 0 then (L.drop i.toNat).take (j - i).toNat else []
def jX (L : List Int) (i j : Int) (l : List Int) : List Int := if kH L i j l = 0 then l else []
section
variable {w0 w : World} {F : HP} {p : Nat} {L : List Int} {pt mk : Int} {v d s : Value} {l dl il : List Int} {i j a x : Int}
theorem BN (H : aB w0 w (dM p L pt mk • F)) (hr : iG w0 F .i32 v l) :
    gG prog 136 #[.pointer (some ⟨p, 0, none⟩), .int .i64 i, .int .i64 j, v] w fun v' w' => ∃ d s, v' = .tuple #[.agg #[.int .i64 (pG L i j l), d, s], .int .i64 (kH L i j l)] ∧
      aB w0 w' (iD 21 .i32 d (jW L i j l) • iD 21 .i32 s (jX L i j l) • dM p (pY L i j l) (qc L pt i j l) (qg L mk i j l) • F) := by
  unfold pG pY qc qg jW jX
  by_cases h1 : i < 0 ∨ L.length < i ∨ j < i ∨ L.length < j
  · have e : kH L i j l = 70 := by unfold kH; rw [if_pos h1]
    simp only [e, show ¬ (70 : Int) = 0 from by decide, if_false]
    exact (BM H hr h1).mono fun v' w' h => ⟨_, _, h.1, (h.2.yU none).yU none⟩
  · have h2 : 0 ≤ i ∧ i ≤ j ∧ j ≤ L.length := by omega
    by_cases h3 : 1024 < L.length - (j - i) + l.length
    · have e : kH L i j l = 3 := by unfold kH; rw [if_neg h1, if_pos h3]
      simp only [e, show ¬ (3 : Int) = 0 from by decide, if_false]
      exact (zZ H hr h2 h3).mono fun v' w' h => ⟨_, _, h.1, (h.2.yU none).yU none⟩
    · have e : kH L i j l = 0 := by unfold kH; rw [if_neg h1, if_neg h3]
      simp only [e, if_true]
      obtain ⟨i', rfl⟩ := Int.eq_ofNat_of_zero_le h2.1
      obtain ⟨j', rfl⟩ := Int.eq_ofNat_of_zero_le (show 0 ≤ j by omega)
      have hij : i' ≤ j' ∧ j' ≤ L.length := by omega
      have := Dz (i := i') (j := j') H hr hij (by omega)
      simpa only [Int.toNat_natCast, show ((j' : Int) - (i' : Int)).toNat = j' - i' from by omega, fU] using this
def smE (L : List Int) (x : Int) : Int := if x < -1 ∨ L.length < x then 70 else 0
def smM (L : List Int) (mk x : Int) : Int := if x < -1 ∨ L.length < x then mk else x
def swE (mk : Int) : Int := if mk < 0 then 6 else 0
def swP (pt mk : Int) : Int := if mk < 0 then pt else mk
def swM (pt mk : Int) : Int := if mk < 0 then mk else pt
theorem EN (H : aB w0 w (dM p L pt mk • F)) : gG prog 125 #[.pointer (some ⟨p, 0, none⟩)] w fun v' w' => ∃ q, v' = .pointer (some ⟨q, 0, none⟩) ∧ aB w0 w' (dM q L pt mk • dM p L pt mk • F) := by
 refine iF func125 ntmps125 ?_
 dsimp only [bg, Nat.reduceAdd]
 refine ay (ah (aW rfl (aA (aj (ay (ay (ah (aI rfl (dH rfl func139 (nP H) ?_)))))))))
 rintro _ _ ⟨rfl, rfl⟩
 refine aA (aj (nY (aO (aj (ay ?_)))))
 obtain ⟨abR, abS, abT, f_p, t_p, Xl, Xm, Xn, Xo, Xp, Xq, abU, abV, abW, abe, Xt⟩ := (H).buf
 refine ah (aI rfl (bQ rfl (aU (bV underlying208 rfl sizeOf208 rfl rfl (Xt).get.2) (iw (cZ (l := [_, _, _, _, _, _]) Xt zeroValue208 rfl) ?_))))
 rintro _ w3 ⟨b3, rfl, H3⟩
 refine aJ (bG 0 (l' := [_, _, _, _, _, _]) (us := [_, _, _, _, _, _]) H3 sizeOf208 rfl rfl rfl (aC (by first | rfl | assumption) (aC (by first | rfl | exact Rd.one ((H3.f3).aT)) (aC (by first | rfl | assumption) (aC (by first | rfl | assumption) (aC (by first | rfl | assumption) (aC (by first | rfl | assumption) bn)))))) rfl rfl) ?_
 rintro _ w4 H4
 refine aA (aj (ay (ah (aI rfl (bQ rfl (bC 1 underlying208 rfl sizeOf23 rfl (eu underlying23 rfl (H4.f2).get.2 rfl (dH rfl func59 (kW H4 (fun W HW => (HW.f3).aT) (by omega)) ?_))))))))
 rintro u5 w5 H5
 refine bC 1 underlying208 rfl sizeOf23 rfl (aJ (aS 1 (l' := [_, _, _, _, _, _]) H5.f2 sizeOf23 rfl rfl (by first | rfl | exact Rd.one ((H5).aT)) rfl rfl) ?_)
 rintro _ w6 H6
 refine aA (aj (ay (ah (aW rfl (aA (aj (aK (aQ (.inl rfl) results125 rfl ?_))))))))
 exact ⟨_, rfl, (aB.kG Xl Xm Xn Xo Xp Xq (by omega) (aB.kG Xl Xm Xn Xo Xp Xq (by omega) H6.f4.f4.f4.f4).f2.f3.f2).f2⟩
def Xu (L : List Int) (a : Int) (dl : List Int) : Bool := decide ((dl.length : Int) ≤ L.length - a) && ((L.drop a.toNat).take dl.length == dl)
def Vq (L : List Int) (a : Int) (dl il : List Int) : Int := if a < 0 ∨ L.length < a then 70 else if Xu L a dl then kH L a (a + dl.length) il else 71
def Zn (L : List Int) (a : Int) (dl il : List Int) : List Int := if Vq L a dl il = 0 then pY L a (a + dl.length) il else L
def Zo (L : List Int) (pt a : Int) (dl il : List Int) : Int := if Vq L a dl il = 0 then qc L pt a (a + dl.length) il else pt
def Zp (L : List Int) (mk a : Int) (dl il : List Int) : Int := if Vq L a dl il = 0 then qg L mk a (a + dl.length) il else mk
end
end Go.Proofs.YtddekefihgejoaaGreatDoor
end
section
namespace Go.Proofs.YtddekefihgejoaaGreatDoor
open Go.RowKit
open _root_.Go.Proofs.Tryz
def eF (s : List Value) (h n p : Nat) : Array Value := (Value.bool true :: (s ++ [.int .i64 h, .int .i64 n, .int .i64 p])).toArray
section
variable {s : List Value} {h n p : Nat}
theorem Aa (hs : s.length = 60) : (eF s h n p).size = 64 := by simp [eF, hs]
theorem Gt : (eF s h n p)[0]? = some (.bool true) := by simp [eF]
theorem Oe (hs : s.length = 60) {i : Nat} (hi : i < 60) : (eF s h n p)[1 + i]? = some (s.getD i undef) := by
  simp [eF, Nat.add_comm 1 i, List.getElem?_append_left (show i < s.length by omega), List.getD_eq_getElem?_getD, show i < s.length by omega]
theorem Og (hs : s.length = 60) : (eF s h n p)[61]? = some (.int .i64 h) := by simp [eF, hs]
theorem oH (hs : s.length = 60) : (eF s h n p)[62]? = some (.int .i64 n) := by simp [eF, hs]
theorem DC (hs : s.length = 60) : (eF s h n p)[63]? = some (.int .i64 p) := by simp [eF, hs]
theorem DF (hs : s.length = 60) (x : Nat) : (eF s h n p).setIfInBounds 63 (.int .i64 x) = eF s h n x := by
  apply Array.ext'; simp [eF, List.set_append, hs]
end
def Xv (I : Hp) (s : List Value) (h : Nat) (E : List (List Int)) : Prop := ∀ i, i < E.length → xC I .i32 (s.getD ((h + i) % 60) undef) (E.getD i [])
def vF (s : List Value) (h : Nat) (E : List (List Int)) : HP := know (fun I => Xv I s h E) fun _ _ hl hk i hi => (hk i hi).mono hl
def dW (p : Nat) (E : List (List Int)) (place : Nat) : HP := qN fun (x : List Value × Nat) =>
  fact (x.1.length = 60 ∧ x.2 < 60 ∧ E.length ≤ 60 ∧ (place < E.length ∨ place = 0) ∧ (∀ e ∈ E, e.length ≤ 1024) ∧ ∀ v ∈ x.1, v.oneCell' = true) • dh p (.cells (eF x.1 x.2 E.length place) 193 (0, 0)) • vF x.1 x.2 E
section
variable {w0 w : World} {F : HP} {p place : Nat} {E : List (List Int)}
theorem aB.ring (H : aB w0 w (dW p E place • F)) : ∃ s h, s.length = 60 ∧ h < 60 ∧ E.length ≤ 60 ∧ (place < E.length ∨ place = 0) ∧ (∀ e ∈ E, e.length ≤ 1024) ∧ (∀ v ∈ s, v.oneCell' = true) ∧ aB w0 w (dh p (.cells (eF s h E.length place) 193 (0, 0)) • vF s h E • F) := by
  obtain ⟨⟨s, h⟩, H⟩ := H.lD
  obtain ⟨⟨h1, h2, h3, h4, h5, h6⟩, H⟩ := H.flat.fact
  exact ⟨s, h, h1, h2, h3, h4, h5, h6, H.flat⟩
theorem aB.CG {s : List Value} {h : Nat} (h1 : s.length = 60) (h2 : h < 60) (h3 : E.length ≤ 60) (h4 : place < E.length ∨ place = 0) (h5 : ∀ e ∈ E, e.length ≤ 1024) (h6 : ∀ v ∈ s, v.oneCell' = true) (H : aB w0 w (dh p (.cells (eF s h E.length place) 193 (0, 0)) • vF s h E • F)) : aB w0 w (dW p E place • F) :=
  aB.gK (s, h) (aB.deep (aB.jP ⟨h1, h2, h3, h4, h5, h6⟩ H.deep))
theorem Gu (H : aB w0 w F) : gG prog 78 #[] w fun v w' => ∃ p, v = .pointer (some ⟨p, 0, none⟩) ∧ aB w0 w' (dW p [] 0 • F) := by
 refine iF func78 ntmps78 ?_
 dsimp only [bg, Nat.reduceAdd]
 refine ay (ah (aW rfl (aA (aj (ay (ah (aU (fO (pl := #[(0, 1), (1, 60), (61, 1), (62, 1), (63, 1)]) (eF (List.replicate 60 (.slice none 0 0)) 0 0 0) underlying193 zeroValue193 (fun w => by kernel_rfl) rfl (by kernel_rfl)) (iw (Pn H rfl) ?_))))))))
 rintro _ w1 ⟨b1, rfl, H1⟩
 refine aW rfl (aA (aj (aK (aQ (.inl rfl) results78 rfl ?_))))
 refine ⟨b1, rfl, aB.CG (s := List.replicate 60 (.slice none 0 0)) (h := 0) (by simp) (by omega) (by simp) (.inr rfl) (by simp) (by intro v hv; rw [List.eq_of_mem_replicate hv]; rfl) ?_⟩
 exact aB.swap (aB.wY (fun I i hi => by simp at hi) H1)
theorem oQ (t : TypeId) {cs : Array Value} {fr : Nat × Nat} {m : Bool} (hb : w.heap[p]? = some (.cells cs t fr)) (h0 : cs[0]? = some (.bool m)) :
  gG prog 158 #[.pointer (some ⟨p, 0, none⟩)] w fun v w' => v = .bool (!m) ∧ w = w' := by
 refine iF func158 ntmps158 ?_
 dsimp only [bg, Nat.reduceAdd]
 refine ay (ah (aW rfl (aA (aj (ay (ah (aI rfl (aU (iI underlying60 rfl rfl) (iM rfl (fun h => by exfalso; (try simp only [aG] at h); simp at h) (fun h1 => ?_))))))))))
 (try simp only [aG] at h1)
 refine aY (aI rfl (aY (bQ rfl (aY (bC 0 underlying193 rfl sizeOf4 rfl (aY (eu underlying4 rfl hb h0 (aY (aU (gQ rfl) (fC rfl rfl (aW rfl (aA (aj (aK (aQ (.inl rfl) results158 rfl ?_)))))))))))))))
 exact ⟨rfl, rfl⟩
theorem aB.P7 {s : List Value} {h i : Nat} (H : aB w0 w (vF s h E • F)) (hi : i < E.length) : jc w .i32 (s.getD ((h + i) % 60) undef) (E.getD i []) := let ⟨I, k, hI⟩ := H.rW; (k i hi).rd hI
theorem I4 {s : List Value} {h n m : Nat} {t : TypeId} {fr : Nat × Nat} {k : Nat} (hs : s.length = 60) (hh : h < 60) (hk : k < 60) (hb : w.heap[p]? = some (.cells (eF s h n m) t fr)) :
  gG prog 159 #[.pointer (some ⟨p, 0, none⟩), .int .i64 k] w fun v w' => v = s.getD ((h + k) % 60) undef ∧ o7 w w' := by
 refine iF func159 ntmps159 ?_
 dsimp only [bg, Nat.reduceAdd]
 refine ay (ah (aW rfl (aA (aj (ay ?_)))))
 refine lI (n := 13) [0, 1, 2, 3, 4, 5, 6, 7, 8, 9, 10, 11, 12] (fun W => W.heap = w.heap) (by kernel_rfl) (by kernel_rfl) rfl ?_
 have hS0 : (fun W => W.heap = w.heap) (w.drew) := rfl
 refine gV 0 rfl hS0 rfl (gV 1 rfl hS0 rfl (iZ 2 rfl hS0 rfl (dV 3 rfl hS0 61 underlying193 rfl sizeOf3 rfl ?_)))
 refine iy 4 rfl hS0 (fun W hW => iQ underlying3 rfl (by rw [hW]; exact hb) (Og hs)) ?_
 refine gV 5 rfl hS0 rfl (iR 6 rfl hS0 (fun _ => dG rfl rfl (by omega)) ?_)
 refine iR 7 rfl hS0 (fun _ => WY rfl rfl (by omega) (by  omega)) ?_
 refine iZ 8 rfl hS0 rfl (dV 9 rfl hS0 1 underlying193 rfl sizeOf191 rfl (iR 10 rfl hS0 (fun _ => wC underlying191 sizeOf23 rfl rfl (by omega)) ?_))
 refine iy 11 rfl hS0 (fun W hW => iQ underlying23 rfl (by rw [hW]; exact hb) (by rw [show (1 + (((h : Int) + (k : Int)) % 60).toNat * 1) = 1 + (h + k) % 60 from by omega]; exact Oe hs (by omega))) ?_
 refine iR 12 rfl hS0 (fun _ => fA rfl) (nJ (aj (aK (aQ (.inl rfl) results159 rfl ?_))))
 exact ⟨rfl, ⟨1, rfl⟩⟩
theorem Gv (H : aB w0 w (dW p E place • F)) : gG prog 114 #[.pointer (some ⟨p, 0, none⟩)] w fun v w' => v = .int .i64 E.length ∧ w = w' := by
 obtain ⟨s, h, hs, hh, hE, hp, hm, ho, H1⟩ := H.ring
 have hb := H1.get.2
 refine iF func114 ntmps114 ?_
 dsimp only [bg, Nat.reduceAdd]
 refine ay (ah (aW rfl (aA (aj (ay (ay (ah (aI rfl (dH rfl func158 (oQ _ hb Gt) ?_)))))))))
 rintro _ _ ⟨rfl, rfl⟩
 refine aA (aj (nY (aO (aj (ay (ah (aI rfl (bQ rfl (bC 62 underlying193 rfl sizeOf3 rfl (eu underlying3 rfl hb (oH hs) (aW rfl (aA (aj (aK (aQ (.inl rfl) results114 rfl ?_)))))))))))))))
 exact ⟨rfl, rfl⟩
end
end Go.Proofs.YtddekefihgejoaaGreatDoor
end
section
namespace Go.Proofs.YtddekefihgejoaaGreatDoor
open Go.RowKit
def Xw (E : List (List Int)) (place : Nat) (way : Int) (l : List Int) : Int × List (List Int) × Nat :=
  if way < 0 ∨ 2 < way then (1, E, place)
  else if 1024 < l.length then (3, E, place)
  else if way ≠ 0 ∧ 0 < E.length then
    if 1024 < l.length + (E.getD 0 []).length then (3, E, place)
    else (0, (if way = 1 then E.getD 0 [] ++ l else l ++ E.getD 0 []) :: E.tail, 0)
  else if way = 0 ∧ l.length = 0 then (0, E, place)
  else (0, (l :: E).take 60, 0)
section
variable {w0 w : World} {F : HP} {p place : Nat} {E : List (List Int)} {v : Value} {l : List Int} {way : Int}
end
end Go.Proofs.YtddekefihgejoaaGreatDoor
end
section
namespace Go.Proofs.YtddekefihgejoaaGreatDoor
open Go.RowKit
open _root_.Go.Proofs.Tryz
def Ac (m place : Nat) (n : Int) : Nat := (((place : Int) + n) % (m : Int)).toNat
theorem TB {m place : Nat} {n : Int} (h : 0 < m) : Ac m place n < m := by
  unfold Ac
  have h1 := Int.emod_nonneg ((place : Int) + n) (show (m : Int) ≠ 0 by omega)
  have h2 := Int.emod_lt_of_pos ((place : Int) + n) (show (0 : Int) < m by omega)
  omega
theorem Gw (a : Int) {m : Int} (h : 0 < m) : -m < a.tmod m ∧ a.tmod m < m := by
  have h2 := Int.tmod_lt_of_pos a h
  have h3 := Int.tmod_lt_of_pos (-a) h
  rw [Int.neg_tmod] at h3
  omega
theorem Fq (a m : Int) : a.tmod m % m = a % m := by
  rw [Int.tmod_def]
  exact Int.sub_mul_emod_self_left a m (a.tdiv m)
theorem Vr (m place : Nat) (n : Int) (h : 0 < m) : (((place : Int) + n.tmod m).tmod m + m).tmod m = (Ac m place n : Int) := by
  have h1 := Gw ((place : Int) + n.tmod m) (show (0 : Int) < m by omega)
  have h2 := Int.emod_nonneg ((place : Int) + n) (show (m : Int) ≠ 0 by omega)
  unfold Ac
  rw [Int.toNat_of_nonneg h2, Int.tmod_eq_emod_of_nonneg (by omega), Int.add_emod_right, Fq, Int.add_emod, Fq, ← Int.add_emod]
section
variable {w0 w : World} {F : HP} {p place : Nat} {E : List (List Int)} {v : Value} {l : List Int} {way : Int}
theorem Ad {n : Int} (H : aB w0 w (dW p [] place • F)) :
  gG prog 115 #[.pointer (some ⟨p, 0, none⟩), .int .i64 n] w fun v' w' => v' = .tuple #[.slice none 0 0, .int .i64 6] ∧ aB w0 w' (dW p [] place • F) := by
 obtain ⟨s, h, hs, hh, hE, hp, hm, ho, H1⟩ := H.ring
 have hb := H1.get.2
 refine iF func115 ntmps115 ?_
 dsimp only [bg, Nat.reduceAdd]
 refine ay (ah (aW rfl (aW rfl (aA (aj (ay (bf (ay (ah (aI rfl (dH rfl func158 (oQ _ hb Gt) ?_)))))))))))
 rintro _ _ ⟨rfl, rfl⟩
 refine aW rfl (aA (aj (nY (ay (ah (aI rfl (bQ rfl (bC 62 underlying193 rfl sizeOf3 rfl (eu underlying3 rfl hb (oH hs) (aU (gU rfl rfl) (aW rfl (aA (aj (aP rfl (fun h1 => ?_) (fun h => by exfalso; (try simp only [aG] at h); first | contradiction | omega | (simp at h <;> omega))))))))))))))))
 (try simp only [aG] at h1)
 refine ay (ah (aW rfl (aW rfl (aA (aj (aK (aX (aN (gW (.inl rfl) results115 rfl rfl ?_)))))))))
 exact ⟨rfl, H⟩
theorem BO {n : Int} (H : aB w0 w (dW p E place • F)) (h0 : 0 < E.length) :
  gG prog 115 #[.pointer (some ⟨p, 0, none⟩), .int .i64 n] w fun v' w' => ∃ u, v' = .tuple #[u, .int .i64 0] ∧
   aB w0 w' (iD 21 .i32 u (E.getD (Ac E.length place n) []) • dW p E (Ac E.length place n) • F) := by
 obtain ⟨s, h, hs, hh, hE, hp, hm, ho, H⟩ := H.ring
 have hb := H.get.2
 have hlt := TB (place := place) (n := n) h0
 have Zq := Vr E.length place n h0
 have hb1 := Gw n (show (0 : Int) < E.length by omega)
 have hb2 := Gw ((place : Int) + n.tmod E.length) (show (0 : Int) < E.length by omega)
 refine iF func115 ntmps115 ?_
 dsimp only [bg, Nat.reduceAdd]
 refine ay (ah (aW rfl (aW rfl (aA (aj (ay (bf (ay (ah (aI rfl (dH rfl func158 (oQ _ hb Gt) ?_)))))))))))
 rintro _ _ ⟨rfl, rfl⟩
 refine aW rfl (aA (aj (nY (ay (ah (aI rfl (bQ rfl (bC 62 underlying193 rfl sizeOf3 rfl (eu underlying3 rfl hb (oH hs) (aU (gU rfl rfl) (aW rfl (aA (aj (aP rfl (fun h => by exfalso; (try simp only [aG] at h); first | contradiction | omega | (simp at h <;> omega)) (fun h1 => ?_)))))))))))))))
 (try simp only [aG] at h1)
 refine aO (aH (aj (ay ?_)))
 refine lI (n := 30) [0, 1, 2, 3, 4, 5, 6, 7, 8, 9, 10, 11, 12, 13, 14, 15, 16, 17, 18, 19, 20, 21, 22, 23, 24, 25, 26, 27, 28, 29] (fun W => W.heap = w.heap) (by kernel_rfl) (by kernel_rfl) rfl ?_
 have hS0 : (fun W => W.heap = w.heap) (w.drew) := rfl
 have YO := H.drew
 refine gV 0 rfl hS0 rfl (gV 1 rfl hS0 rfl (iZ 2 rfl hS0 rfl (dV 3 rfl hS0 63 underlying193 rfl sizeOf3 rfl ?_)))
 refine iy 4 rfl hS0 (fun W hW => iQ underlying3 rfl (by rw [hW]; exact hb) (DC hs)) ?_
 refine gV 5 rfl hS0 rfl (gV 6 rfl hS0 rfl (iZ 7 rfl hS0 rfl (dV 8 rfl hS0 62 underlying193 rfl sizeOf3 rfl ?_)))
 refine iy 9 rfl hS0 (fun W hW => iQ underlying3 rfl (by rw [hW]; exact hb) (oH hs)) ?_
 refine iR 10 rfl hS0 (fun _ => Kr rfl rfl (by omega)) (iR 11 rfl hS0 (fun _ => dG rfl rfl (by omega)) (gV 12 rfl hS0 rfl (iZ 13 rfl hS0 rfl (dV 14 rfl hS0 62 underlying193 rfl sizeOf3 rfl ?_))))
 refine iy 15 rfl hS0 (fun W hW => iQ underlying3 rfl (by rw [hW]; exact hb) (oH hs)) ?_
 refine iR 16 rfl hS0 (fun _ => Kr rfl rfl (by omega)) (gV 17 rfl hS0 rfl (iZ 18 rfl hS0 rfl (dV 19 rfl hS0 62 underlying193 rfl sizeOf3 rfl ?_)))
 refine iy 20 rfl hS0 (fun W hW => iQ underlying3 rfl (by rw [hW]; exact hb) (oH hs)) ?_
 refine iR 21 rfl hS0 (fun _ => dG rfl rfl (by omega)) (gV 22 rfl hS0 rfl (iZ 23 rfl hS0 rfl (dV 24 rfl hS0 62 underlying193 rfl sizeOf3 rfl ?_)))
 refine iy 25 rfl hS0 (fun W hW => iQ underlying3 rfl (by rw [hW]; exact hb) (oH hs)) ?_
 refine iR 26 rfl hS0 (fun _ => Kr rfl rfl (by omega)) (iZ 27 rfl hS0 rfl (dV 28 rfl hS0 63 underlying193 rfl sizeOf3 rfl ?_))
 refine dN 29 rfl (by kernel_rfl) (fM YO sizeOf3 rfl rfl rfl (by rw [Aa hs]; decide)) ?_
 rintro _ w2 H2
 rw [Zq, DF hs] at H2
 refine Md (by kernel_rfl) ?_
 refine nJ (aj (ay (ah (aI rfl (aI rfl (bQ rfl (bC 63 underlying193 rfl sizeOf3 rfl (eu underlying3 rfl H2.get.2 (DC hs) (dH rfl func159 (I4 hs hh (by omega) H2.get.2) ?_)))))))))
 rintro _ w3 ⟨rfl, hD2⟩
 have H3 := H2.yO hD2
 refine Kq (qP (qV rfl func59 rfl rfl) (kW H3 (fun W HW => HW.right.P7 (i := Ac E.length place n) hlt) (by have := hm (E.getD (Ac E.length place n) []) (by rw [List.getD_eq_getElem?_getD, List.getElem?_eq_getElem hlt]; simp); omega))) (lY rfl) ?_
 rintro u w4 H4
 refine aW rfl (aW rfl (aA (aj (aK (gW (.inl rfl) results115 rfl rfl ?_)))))
 exact ⟨u, rfl, (aB.CG hs hh hE (.inl hlt) hm ho H4.d3).swap⟩
theorem aB.Oh {s : List Value} {h : Nat} (H : aB w0 w (vF s h E • F)) : aB w0 w (vF s h E • vF s h E • F) := H.yM
theorem Oi {s : List Value} {h n p : Nat} (ho : ∀ v ∈ s, v.oneCell' = true) : ∀ v ∈ (eF s h n p).toList, v.oneCell' = true := by
  intro v hv
  simp [eF] at hv
  rcases hv with rfl | hv | rfl | rfl | rfl <;> first | rfl | exact ho v hv
theorem wJ (H : aB w0 w (dW p E place • F)) :
  gG prog 113 #[.pointer (some ⟨p, 0, none⟩)] w fun v' w' => ∃ q, v' = .pointer (some ⟨q, 0, none⟩) ∧ aB w0 w' (dW q E place • dW p E place • F) := by
 obtain ⟨s, h, hs, hh, hE, hp, hm, ho, H⟩ := H.ring
 have hb := H.get.2
 refine iF func113 ntmps113 ?_
 dsimp only [bg, Nat.reduceAdd]
 refine ay (ah (aW rfl (aA (aj (ay (ay (ah (aI rfl (dH rfl func158 (oQ _ hb Gt) ?_)))))))))
 rintro _ _ ⟨rfl, rfl⟩
 refine aA (aj (nY (aO (aj (ay (ah (aI rfl (bQ rfl (aU (bV underlying193 rfl sizeOf193 (Aa hs) rfl hb) (iw (uY H zeroValue193) ?_))))))))))
 rintro _ w2 ⟨b2, rfl, H2⟩
 refine aJ (dD H2 sizeOf193 (Aa hs) rfl rfl rfl (Oi ho)) ?_
 rintro _ w3 H3
 refine aA (aj (ay (ah (aW rfl (aA (aj (aK (aQ (.inl rfl) results113 rfl ?_))))))))
 exact ⟨_, rfl, aB.CG hs hh hE hp hm ho (aB.CG hs hh hE hp hm ho (H3.Ii.Oh.r4)).swap.Ii⟩
end
end Go.Proofs.YtddekefihgejoaaGreatDoor
end
section
namespace Go.Proofs.YtddekefihgejoaaGreatDoor
open Go.RowKit
open _root_.Go.Proofs.Tryz
section
variable {w0 w : World} {F : HP} {p place : Nat} {E : List (List Int)}
theorem KN (H : aB w0 w (dW p E place • F)) : E.length ≤ 60 ∧ (place < E.length ∨ place = 0) ∧ ∀ e ∈ E, e.length ≤ 1024 := by
  obtain ⟨s, h, hs, hh, hE, hpl, hE2, hs1, H1⟩ := H.ring
  exact ⟨hE, hpl, hE2⟩
theorem BP {n : Int} (H : aB w0 w (dW p E place • F)) : gG prog 115 #[.pointer (some ⟨p, 0, none⟩), .int .i64 n] w fun v w' => ∃ u, v = .tuple #[u, .int .i64 (if E.length = 0 then 6 else 0)] ∧
    aB w0 w' (iD 21 .i32 u (if E.length = 0 then [] else E.getD (Ac E.length place n) []) • dW p E (if E.length = 0 then place else Ac E.length place n) • F) := by
  by_cases h0 : E.length = 0
  · obtain rfl := List.eq_nil_of_length_eq_zero h0
    simp only [List.length_nil, if_true]
    exact (Ad H).mono fun v w' h => ⟨_, h.1, h.2.iE none⟩
  · simp only [if_neg h0]
    exact (BO H (by omega)).mono fun v w' h => h
end
end Go.Proofs.YtddekefihgejoaaGreatDoor
end
section
namespace Go.Proofs.YtddekefihgejoaaGreatDoor
open Go.RowKit
def rG (I : Hp) (k : IntKind) (vs : List Value) (ls : List (List Int)) : Prop := vs.length = ls.length ∧ ∀ j, j < ls.length → xC I k (vs.getD j undef) (ls.getD j [])
def sF (k : IntKind) (vs : List Value) (ls : List (List Int)) : HP := know (fun I => rG I k vs ls) fun _ _ hl h => ⟨h.1, fun j hj => (h.2 j hj).mono hl⟩
def LL (e : TypeId) (k : IntKind) (v : Value) (ls : List (List Int)) : HP := qN fun vs => Row e 1 v ls.length vs • sF k vs ls
theorem ku {α : Type _} {l m : List α} {j : Nat} {d : α} (h : j < l.length) : (l ++ m).getD j d = l.getD j d := by simp [List.getD_eq_getElem?_getD, List.getElem?_append_left h]
theorem jL {α : Type _} {l m : List α} {j : Nat} {d : α} (h : l.length ≤ j) : (l ++ m).getD j d = m.getD (j - l.length) d := by simp [List.getD_eq_getElem?_getD, List.getElem?_append_right h]
theorem Fv {α : Type _} {l : List α} {i j : Nat} {d : α} : (l.drop i).getD j d = l.getD (i + j) d := by simp [List.getD_eq_getElem?_getD]
theorem Ae {α : Type _} {l : List α} {i j : Nat} {d : α} (h : j < i) : (l.take i).getD j d = l.getD j d := by simp [List.getD_eq_getElem?_getD, List.getElem?_take, h]
theorem uw {α : Type _} {l : List α} {j : Nat} {d : α} (h : j < l.length) : l.getD j d ∈ l := by rw [List.getD_eq_getElem?_getD, List.getElem?_eq_getElem h]; exact List.getElem_mem h
theorem rG.app {I : Hp} {k : IntKind} {vs us : List Value} {ls ms : List (List Int)} (h : rG I k vs ls) (g : rG I k us ms) : rG I k (vs ++ us) (ls ++ ms) := by
  refine ⟨by simp [h.1, g.1], fun j hj => ?_⟩
  by_cases hl : j < ls.length
  · rw [ku (by rw [h.1]; exact hl), ku hl]; exact h.2 j hl
  · have hj' : j - ls.length < ms.length := by simp at hj; omega
    rw [jL (by rw [h.1]; omega), jL (by omega), h.1]; exact g.2 _ hj'
theorem rG.drop {I : Hp} {k : IntKind} {vs : List Value} {ls : List (List Int)} (h : rG I k vs ls) (i : Nat) : rG I k (vs.drop i) (ls.drop i) := by
  refine ⟨by simp [h.1], fun j hj => ?_⟩
  rw [Fv, Fv]
  exact h.2 _ (by simp at hj; omega)
theorem rG.take {I : Hp} {k : IntKind} {vs : List Value} {ls : List (List Int)} (h : rG I k vs ls) (i : Nat) : rG I k (vs.take i) (ls.take i) := by
  refine ⟨by simp [h.1], fun j hj => ?_⟩
  simp at hj
  rw [Ae (by omega), Ae (by omega)]
  exact h.2 _ (by omega)
theorem xC.one {I : Hp} {k : IntKind} {v : Value} {l : List Int} (h : xC I k v l) : rG I k [v] [l] := ⟨rfl, fun j hj => by
  obtain rfl : j = 0 := by simp at hj; omega
  exact h⟩
theorem xC.P8 {I : Hp} {k : IntKind} {v : Value} {l : List Int} (h : xC I k v l) : v.oneCell' = true := by obtain ⟨a, c, rfl, _⟩ := h; rfl
section
variable {w0 w : World} {F : HP} {e : TypeId} {k : IntKind} {v : Value} {vs us : List Value} {ls ms : List (List Int)} {l : List Int}
theorem aB.TD (H : aB w0 w (sF k vs ls • F)) {j : Nat} (hj : j < ls.length) : jc w k (vs.getD j undef) (ls.getD j []) := let ⟨I, h, hI⟩ := H.rW; (h.2 j hj).rd hI
theorem aB.P9 (H : aB w0 w F) : aB w0 w (sF k [] [] • F) := H.wY fun I => ⟨rfl, fun j hj => by simp at hj⟩
theorem aB.Fz (H : aB w0 w (sF k vs ls • pU k v l • F)) : aB w0 w (sF k (vs ++ [v]) (ls ++ [l]) • F) := H.EH (ru (fun I h g => h.app g.one) F)
theorem Rd.Xx {n : Nat} {xs : List Value} (hr : Rd w 1 v n xs) {i : Nat} (h : i ≤ n) : Rd w 1 (nK 1 0 i v) i (xs.take i) := by
  have h1 := hr.cut (Nat.zero_le i) h
  simpa using h1
end
end Go.Proofs.YtddekefihgejoaaGreatDoor
end
section
namespace Go.Proofs.YtddekefihgejoaaGreatDoor
open Go.RowKit
theorem Qa {α : Type _} {enc : α → List Value} {sz : Nat} (he : ∀ a, (enc a).length = sz) (l : List α) : (l.flatMap enc).length = l.length * sz := by
  induction l with
  | nil => simp
  | cons a l ih => simp [he, ih, Nat.add_mul, Nat.add_comm]
theorem kC {α : Type _} {enc : α → List Value} {sz : Nat} (he : ∀ a, (enc a).length = sz) {l : List α} {k : Nat} (hk : k < l.length) (d : α) : ((l.flatMap enc).drop (k * sz)).take sz = enc (l.getD k d) := by
  have h1 : l = l.take k ++ l.getD k d :: l.drop (k + 1) := by
    rw [List.getD_eq_getElem?_getD, List.getElem?_eq_getElem hk]
    simp
  have h2 : ((l.take k).flatMap enc).length = k * sz := by rw [Qa he, List.length_take, Nat.min_eq_left (by omega)]
  conv => lhs; rw [h1]
  rw [List.flatMap_append, List.drop_append, h2]
  simp [h2, List.take_append, he]
theorem jf {P : Program} {L : List (Nat × Value)} {w : World} {ty : TypeId} {x : Operand} {t : TypeId} {d : TypeDesc} {b o n c sz n' k : Nat} {xs ys : List Value} (hr : Rd w sz (.slice (some ⟨b, o, none⟩) n c) n' xs) (hk : k < n') (hu : P.underlying t = some d) (hd : Gm d = true) (hs : ∀ w, (sizeOf t).run P w = .ok sz w)
    (hx : ev L x = some (.pointer (some ⟨b, o + (k : Int).toNat * sz, none⟩))) (hy : (xs.drop (k * sz)).take sz = ys) (hl : ys.length = sz) : Val P L (.load t x) ty w (.agg ys.toArray) w :=
  uX (by rw [hu]; rfl) (E8 hu hd) hs hl hx (fun j u hj => by
    have hjl : j < sz := by rw [← hl]; exact (List.getElem?_eq_some_iff.1 hj).1
    rw [hr.atS hk hjl, List.getD_eq_getElem?_getD]
    rw [← hy, List.getElem?_take, if_pos hjl, List.getElem?_drop] at hj
    rw [hj]; rfl)
end Go.Proofs.YtddekefihgejoaaGreatDoor
end
section
namespace Go.Proofs.YtddekefihgejoaaGreatDoor
open Go.RowKit
open _root_.Go.Proofs.Tryz
theorem DI (w : World) (v1 v2 : Value) (l1 l2 : List Int) (h1 : jc w .i32 v1 l1) (h2 : jc w .i32 v2 l2) :
  gG prog 22 #[v1, v2] w fun v w' => v = .bool (l1 == l2) ∧ o7 w w' := by
 obtain ⟨a1, c1, rfl, hc1, hm1, hr1⟩ := h1.open
 obtain ⟨a2, c2, rfl, hc2, hm2, hr2⟩ := h2.open
 clear h1 h2
 refine iF func22 ntmps22 ?_
 dsimp only [bg, Nat.reduceAdd]
 refine ay (ah (aW rfl (aA (aj (ay (ay (ah (aI rfl (aU (jg underlying23 rfl) (aI rfl (aU (jg underlying23 rfl) (aU (gy rfl rfl) (aA (aj (aP rfl (fun h1 => ?_) (fun h1 => ?_))))))))))))))))
 ·(try simp only [aG] at h1)
  try (exfalso; first | contradiction | omega)
  all_goals
   refine ay (ah (aW rfl (aA (aj (aK (aN (aQ (.inl rfl) results22 rfl ?_)))))))
   exact ⟨by rw [show (l1 == l2) = false from beq_eq_false_iff_ne.2 (by rintro rfl; exact h1 rfl)], o7.refl _⟩
 ·(try simp only [aG] at h1)
  try (exfalso; first | contradiction | omega)
  all_goals
   refine aO (aj (ay (ay (ah (aW rfl (aA (aj (bf ?_))))))))
   refine eP [(0, _), (1, _)] (fun (k : Nat) => [(5, .int .i64 (k : Int))]) (fun (k : Nat) W => k ≤ l1.length ∧ l1.length = l2.length ∧ l1.take k = l2.take k ∧ o7 w W) (fun (k : Nat) => l1.length - k) (0) (Sub.cons rfl (Sub.cons rfl (Sub.nil _))) (Sub.cons rfl (Sub.nil _)) ⟨by omega, by omega, by simp, o7.refl _⟩ ?_
   rintro k w1 ⟨hk, hl, ht, hD⟩
   dsimp only [List.cons_append, List.nil_append]
   refine ay (ay (ah (aI rfl (aI rfl (aU (jg underlying23 rfl) (aU (dB rfl rfl) (aA (aj (aP rfl (fun h2 => ?_) (fun h2 => ?_))))))))))
   ·(try simp only [aG] at h2)
    try (exfalso; first | contradiction | omega)
    all_goals
     refine aO (aj (ay (bf (ay ?_))))
     obtain ⟨b1, o1, rfl, hq1⟩ := hr1 (by omega)
     obtain ⟨b2, o2, rfl, hq2⟩ := hr2 (by omega)
     have hc1 := hq1 k (by omega)
     have hc2 := hq2 k (by omega)
     refine lI (n := 9) [0, 1, 2, 3, 4, 5, 6, 7, 8] (fun W => W.heap = w1.heap) (by kernel_rfl) (by kernel_rfl) rfl ?_
     have hS0 : (fun W => W.heap = w1.heap) (w1.drew) := rfl
     refine gV 0 rfl hS0 rfl (gV 1 rfl hS0 rfl (iR 2 rfl hS0 (fun _ => bY underlying23 sizeOf21 rfl rfl (by omega)) ?_))
     refine iy 3 rfl hS0 (fun W hW => dZ (bU underlying21 rfl) rfl (by rw [uf (hW.trans hD.heap)]; simpa using hc1)) ?_
     refine gV 4 rfl hS0 rfl (gV 5 rfl hS0 rfl (iR 6 rfl hS0 (fun _ => bY underlying23 sizeOf21 rfl rfl (by omega)) ?_))
     refine iy 7 rfl hS0 (fun W hW => dZ (bU underlying21 rfl) rfl (by rw [uf (hW.trans hD.heap)]; simpa using hc2)) ?_
     refine iR 8 rfl hS0 (fun _ => gy rfl rfl) (nJ (aj (aP rfl (fun h3 => ?_) (fun h3 => ?_))))
     ·(try simp only [aG] at h3)
      try (exfalso; first | contradiction | omega)
      all_goals
       refine ay (ah (aW rfl (aA (aj (aK (aX (aN (aN (aX (aN (aQ (.inl rfl) results22 rfl ?_)))))))))))
       exact ⟨by rw [show (l1 == l2) = false from beq_eq_false_iff_ne.2 (by rintro rfl; exact h3 rfl)], hD.drew⟩
     ·(try simp only [aG] at h3)
      try (exfalso; first | contradiction | omega)
      all_goals
       refine aO (aH (aj (ah (aI rfl (aU (dG rfl rfl (by omega)) (aW rfl (aA ?_)))))))
       refine cO (k + 1) ?_ ?_ ?_ ?_
       ·exact (Sub.cons rfl (Sub.nil _))
       ·exact (Sub.cons rfl (Sub.cons rfl (Sub.nil _)))
       ·(try dsimp only)
        first | done | exact ⟨by omega, by omega, yZ (by omega) (by omega) ht (by simpa using h3), hD.drew⟩
       ·(try dsimp only); omega
   ·(try simp only [aG] at h2)
    try (exfalso; first | contradiction | omega)
    all_goals
     refine dK (aV (aV (bD (aj (ay (ah (aW rfl (aA (aj (aK (aQ (.inl rfl) results22 rfl ?_)))))))))))
     exact ⟨by rw [show (l1 == l2) = true from beq_iff_eq.2 (by rw [List.take_of_length_le (by omega), List.take_of_length_le (by omega)] at ht; exact ht)], hD⟩
section
variable {w0 w : World} {F : HP} {v d s z d2 z2 u1 u2 u3 : Value} {L dl il Wx Xy l1 l2 l3 : List Int} {a a2 : Int}
theorem I5 (H : aB w0 w F) (hv : EL w0 F 1 v 2 [u1, u2]) (h1 : iG w0 F .i32 u1 l1) (h2 : iG w0 F .i32 u2 l2) (hb : l1.length + l2.length ≤ 35184372088832) :
    gG prog 62 #[v] w fun v' w' => aB w0 w' (iD 21 .i32 v' (l1 ++ l2) • F) := by
  have := Dw (ls := [l1, l2]) (vs := [u1, u2]) H hv (fun k hk => ?_) (by simp; omega)
  · simpa using this
  · simp at hk
    match k, hk with
    | 0, _ => exact h1
    | 1, _ => exact h2
def Zr (L : List Int) (a : Int) (dl : List Int) : Bool := decide (0 ≤ a ∧ a + dl.length ≤ L.length) && ((L.drop a.toNat).take dl.length == dl)
def uE (L : List Int) (a : Int) (dl il : List Int) : Int := if Zr L a dl then (if 1024 < (L.length : Int) - dl.length + il.length then 3 else 0) else 1
def uL (L : List Int) (a : Int) (dl il : List Int) : List Int := if uE L a dl il = 0 then L.take a.toNat ++ il ++ L.drop (a.toNat + dl.length) else []
abbrev Xz (a : Int) (d z : Value) : Value := .agg #[.int .i64 a, d, z]
theorem qo (H : aB w0 w F) (hd : iG w0 F .i32 d dl) (hi : iG w0 F .i32 z il) (b2 : dl.length ≤ 35184372087808) (b3 : il.length ≤ 35184372087808) :
  gG prog 168 #[Xz a d z] w fun v' w' => ∃ d' s', v' = Xz a d' s' ∧ aB w0 w' (iD 21 .i32 d' dl • iD 21 .i32 s' il • F) := by
 refine iF func168 ntmps168 ?_
 dsimp only [bg, Nat.reduceAdd]
 refine ay (ah (iw (jd (l := [_, _, _]) H rfl rfl) ?_))
 rintro _ w1 ⟨b1, rfl, H1⟩
 refine iw (cZ (l := [_, _, _]) H1 zeroValue202 rfl) ?_
 rintro _ w2 ⟨b2, rfl, H2⟩
 refine aA (aj (ay ?_))
 have Qb := H2.drew
 have uy := aB.kp (Qb.f2.f2)
 refine wo [1, 3, 6] uy rfl (dV 0 rfl uy 0 underlying202 rfl sizeOf3 rfl (iy 1 rfl uy (fun W hW => iQ underlying3 rfl ((Kp.h hW).f2).get.2 rfl) (dV 2 rfl uy 1 underlying202 rfl sizeOf23 rfl (iy 3 rfl uy (fun W hW => iQ underlying23 rfl ((Kp.h hW).f2).get.2 rfl) (dV 5 rfl uy 2 underlying202 rfl sizeOf23 rfl (iy 6 rfl uy (fun W hW => iQ underlying23 rfl ((Kp.h hW).f2).get.2 rfl) (jr 4 rfl (rX rfl func59 (kW Qb (fun W HW => hd _ (HW.right.right)) (by omega))) ?_)))))))
 rintro u3 w3 H3
 have BQ := aB.kp (H3.f3.f3.f3)
 refine bW BQ (fun W hW => (Kp.h hW).right.f2.f2) ?_
 refine jr 7 rfl (rX rfl func59 (kW H3 (fun W HW => hi _ (HW.right.right.right)) (by omega))) ?_
 rintro u4 w4 H4
 have uz := aB.kp (H4.f4.f4.f4.f4)
 refine bW uz (fun W hW => (Kp.h hW).right.f3.f3.f3) ?_
 obtain ⟨au3, cu3, XA, -⟩ := jc.open ((H4.f2).aT)
 subst XA
 obtain ⟨au4, cu4, eu4, -⟩ := jc.open ((H4).aT)
 subst eu4
 refine iR 8 rfl uz (fun _ => fO (pl := #[(0, 1), (1, 1), (2, 1)]) (#[_, _, _]) underlying202 zeroValue202 (fun w => by kernel_rfl) rfl (rfl)) ?_
 refine dN 9 rfl (by kernel_rfl) (bG 0 (l' := [_, _, _]) (us := [_, _, _]) H4.f3 sizeOf202 rfl rfl rfl (aC (by first | rfl | assumption) (aC (by first | rfl | exact Rd.one ((H4.f2).aT)) (aC (by first | rfl | exact Rd.one ((H4).aT)) bn))) rfl rfl) ?_
 rintro _ w7 H7
 have xG := aB.kp (H7.f4.f4.f4.f4)
 refine dR xG (by kernel_rfl) ?_
 refine nJ (aj (aK ?_))
 refine kM (.inl rfl) (Gl results168 rfl underlying202 rfl (by rw [show (prog.info? 202).map (·.size) = some 3 from by kernel_rfl]; rfl) (H7).get.2) ?_
 exact ⟨_, _, rfl, H7.right.f3.right.f2⟩
theorem Af (H : aB w0 w F) (hd : iG w0 F .i32 d dl) (hi : iG w0 F .i32 z il) (b2 : dl.length ≤ 35184372087808) (b3 : il.length ≤ 35184372087808) :
  gG prog 178 #[Xz a d z] w fun v' w' => ∃ d' s', v' = Xz a d' s' ∧ aB w0 w' (iD 21 .i32 d' il • iD 21 .i32 s' dl • F) := by
 refine iF func178 ntmps178 ?_
 dsimp only [bg, Nat.reduceAdd]
 refine ay (ah (iw (jd (l := [_, _, _]) H rfl rfl) ?_))
 rintro _ w1 ⟨b1, rfl, H1⟩
 refine iw (cZ (l := [_, _, _]) H1 zeroValue202 rfl) ?_
 rintro _ w2 ⟨b2, rfl, H2⟩
 refine aA (aj (ay (ah (bC 0 underlying202 rfl sizeOf3 rfl (eu underlying3 rfl (H2.f2).get.2 rfl (bC 2 underlying202 rfl sizeOf23 rfl (eu underlying23 rfl (H2.f2).get.2 rfl (bC 1 underlying202 rfl sizeOf23 rfl (eu underlying23 rfl (H2.f2).get.2 rfl ?_)))))))))
 obtain ⟨az, cz, ez, -⟩ := jc.open (hi _ (H2.right.right))
 subst ez
 obtain ⟨ad, cd, ed, -⟩ := jc.open (hd _ (H2.right.right))
 subst ed
 refine aU (fO (pl := #[(0, 1), (1, 1), (2, 1)]) (#[_, _, _]) underlying202 zeroValue202 (fun w => by kernel_rfl) rfl (rfl)) (dH rfl func168 (qo H2 (fun W HW => hi _ (HW.right.right)) (fun W HW => hd _ (HW.right.right)) (by omega) (by omega)) ?_)
 rintro _ w5 ⟨d5, s5, rfl, H5⟩
 refine aJ (bG 0 (l' := [_, _, _]) (us := [_, _, _]) H5.f3 sizeOf202 rfl rfl rfl (aC (by first | rfl | assumption) (aC (by first | rfl | exact Rd.one ((H5).aT)) (aC (by first | rfl | exact Rd.one ((H5.f2).aT)) bn))) rfl rfl) ?_
 rintro _ w6 H6
 refine aA (aj (aK ?_))
 refine kM (.inl rfl) (Gl results178 rfl underlying202 rfl (by rw [show (prog.info? 202).map (·.size) = some 3 from by kernel_rfl]; rfl) (H6).get.2) ?_
 exact ⟨_, _, rfl, H6.right.f3.right.f2.f2⟩
end
end Go.Proofs.YtddekefihgejoaaGreatDoor
end
section
namespace Go.Proofs.YtddekefihgejoaaGreatDoor
open Go.RowKit
section
variable {w0 w : World} {F : HP} {v d s z d2 z2 u1 u2 u3 : Value} {L dl il Wx Xy l1 l2 l3 : List Int} {a a2 : Int}
def jK (a a2 : Int) (dl il Wx Xy : List Int) : Nat := if Wx.length = 0 ∧ a2 = a + il.length then 1 else if il.length = 0 ∧ Xy.length = 0 ∧ a = a2 + Wx.length then 2 else 0
def jA (k : Nat) (a a2 : Int) : Int := if k = 1 then a else if k = 2 then a2 else 0
def jD (k : Nat) (dl Wx : List Int) : List Int := if k = 1 then dl else if k = 2 then Wx ++ dl else []
def jI (k : Nat) (il Xy : List Int) : List Int := if k = 1 then il ++ Xy else []
end
end Go.Proofs.YtddekefihgejoaaGreatDoor
end
section
namespace Go.Proofs.YtddekefihgejoaaGreatDoor
open Go.RowKit
section
variable {P : Program} {L : List (Nat × Value)} {w0 w : World} {F : HP} {ty : TypeId}
theorem KO (l : List Value) : ∀ (i : Nat) (cells : Array Value), cells.size = i + l.length → (l.zipIdx i).foldl (fun cs (x : Value × Nat) => cs.setIfInBounds (0 + x.2) x.1) cells = (cells.toList.take i ++ l).toArray := by
  induction l with
  | nil => intro i cells hs; simp [List.take_of_length_le (show cells.toList.length ≤ i by simp; simp at hs; omega)]
  | cons v r ih =>
    intro i cells hs
    rw [List.zipIdx_cons, List.foldl_cons]
    rw [ih (i + 1) _ (by simp at hs ⊢; omega)]
    congr 1
    have hi : i < cells.toList.length := by simp at hs ⊢; omega
    rw [Array.toList_setIfInBounds, Nat.zero_add, List.take_succ_eq_append_getElem (by simpa using hi), List.take_set_of_le (Nat.le_refl _)]
    simp
theorem lZ {t e sz : Nat} {x : Operand} {cs : Array Value} {z : Value} (H : aB w0 w F) (ht : P.underlying t = some (.slice e)) (hs : ∀ w, (sizeOf e).run P w = .ok sz w) (hz : ∀ w, (zeroValue e).run P w = .ok z w) (hz1 : z.cells.size = sz)
    (hx : ev L x = some (.agg cs)) (hn : cs.size = sz) (h0 : 0 < sz) (NU : sz ≤ 16777216) :
    rU P L (.buildSlice t 1 #[(0, x)]) ty w fun v w' => aB w0 w' (Row e sz v 1 cs.toList • F) := by
  refine nG (v := .slice (some ⟨w.heap.size, 0, none⟩) 1 1) (w' := w.alloc (.cells cs e)) ?_ ?_
  · intro ρ hρ d pos lH g
    simp only [execOp, Instr.buildSlice, Sem.run_bind, run_underlying ht, Result.andThen_ok, hs]
    rw [if_neg (by omega), if_neg (by omega)]
    have hf : ∀ q : Array Value, q.size = sz → Instr.fill (fun i => some (i * sz, sz)) q [(0, .agg cs)] = some cs := fun q hq => by
      simp only [Instr.fill, Value.cells, hn]
      rw [if_neg (by simp [hq])]
      have := KO cs.toList 0 q (by simp [hn, hq])
      simp only [Nat.zero_mul]
      rw [← Array.foldl_toList, Array.toList_zipIdx]
      simpa using this
    have hf1 := hf ((Array.range sz).map (z.cells[· % z.cells.size]!)) (by simp)
    simp [hz, hρ _ _ hx, hf1, newRow]
  · refine (H.alloc _).sZ (by simp [hn]) rfl (Nat.le_refl _) (by omega) (by simp [hn]) fun j hj => ?_
    rw [Nat.zero_add, List.getD_eq_getElem?_getD]
    have : j < cs.size := by omega
    simp [this]
theorem DJ (l : List Value) : ∀ (o i : Nat) (cells : Array Value), o + i + l.length ≤ cells.size → (l.zipIdx i).foldl (fun cs (x : Value × Nat) => cs.setIfInBounds (o + x.2) x.1) cells = (cells.toList.take (o + i) ++ l ++ cells.toList.drop (o + i + l.length)).toArray := by
  induction l with
  | nil => intro o i cells hs; simp
  | cons v r ih =>
    intro o i cells hs
    rw [List.zipIdx_cons, List.foldl_cons]
    rw [ih o (i + 1) _ (by simp at hs ⊢; omega)]
    congr 1
    simp only [List.length_cons] at hs ⊢
    have hi : o + i < cells.toList.length := by rw [Array.length_toList]; omega
    rw [Array.toList_setIfInBounds, show o + (i + 1) = o + i + 1 from by omega, List.take_succ_eq_append_getElem (by simpa using hi), List.take_set_of_le (Nat.le_refl _), List.drop_set_of_lt (by omega)]
    simp
    omega
theorem Oj {t e sz : Nat} {x y : Operand} {cs ds : Array Value} {z : Value} (H : aB w0 w F) (ht : P.underlying t = some (.slice e)) (hs : ∀ w, (sizeOf e).run P w = .ok sz w) (hz : ∀ w, (zeroValue e).run P w = .ok z w) (hz1 : z.cells.size = sz)
    (hx : ev L x = some (.agg cs)) (hy : ev L y = some (.agg ds)) (hn : cs.size = sz) (hm : ds.size = sz) (h0 : 0 < sz) (NU : sz ≤ 8388608) :
    rU P L (.buildSlice t 2 #[(0, x), (1, y)]) ty w fun v w' => aB w0 w' (Row e sz v 2 (cs.toList ++ ds.toList) • F) := by
  refine nG (v := .slice (some ⟨w.heap.size, 0, none⟩) 2 2) (w' := w.alloc (.cells (cs ++ ds) e)) ?_ ?_
  · intro ρ hρ d pos lH g
    simp only [execOp, Instr.buildSlice, Sem.run_bind, run_underlying ht, Result.andThen_ok, hs]
    rw [if_neg (by omega), if_neg (by omega)]
    have hf : ∀ q : Array Value, q.size = 2 * sz → Instr.fill (fun i => some (i * sz, sz)) q [(0, .agg cs), (1, .agg ds)] = some (cs ++ ds) := fun q hq => by
      have f1 := DJ cs.toList 0 0 q (by simp [hn, hq]; omega)
      have f2 := DJ ds.toList sz 0 ((q.toList.take 0 ++ cs.toList ++ q.toList.drop (0 + cs.toList.length)).toArray) (by simp [hn, hm, hq]; omega)
      simp only [Instr.fill, Value.cells, hn, hm]
      simp only [Nat.zero_mul, Nat.one_mul]
      rw [if_neg (by simp [hq]; omega), ← Array.foldl_toList, Array.toList_zipIdx]
      simp only [Nat.zero_add] at f1 f2 ⊢
      rw [f1]
      rw [if_neg (by simp [hn, hq]; omega), ← Array.foldl_toList, Array.toList_zipIdx]
      rw [f2]
      congr 1
      apply Array.ext'
      simp [hn, hm, hq]
      omega
    have hf1 := hf ((Array.range (2 * sz)).map (z.cells[· % z.cells.size]!)) (by simp)
    simp [hz, hρ _ _ hx, hρ _ _ hy, hf1, newRow]
  · refine (H.alloc _).sZ (by simp [hn, hm]; omega) rfl (Nat.le_refl _) (by omega) (by simp [hn, hm]; omega) fun j hj => ?_
    rw [Nat.zero_add, List.getD_eq_getElem?_getD]
    have h1 : j < (cs ++ ds).size := by simp [hn, hm]; omega
    rw [← Array.getElem?_toList, Array.toList_append, List.getElem?_eq_getElem (by simpa using h1)]
    rfl
theorem y9 {t e sz n n' : Nat} {x y : Operand} {b o c : Nat} {i : Int} (off : Nat) {xs : List Value} {u : Value} (H : aB w0 w (Row e sz (.slice (some ⟨b, o, none⟩) n' c) n xs • F)) (hs : ∀ w, (sizeOf t).run P w = .ok 1 w)
    (hx : ev L x = some (.pointer (some ⟨b, o + i.toNat * sz + off, none⟩))) (hy : ev L y = some u) (h1 : u.oneCell' = true) (hi : i.toNat < n) (ho : off < sz) :
    rU P L (.store t x y) ty w fun _ w' => aB w0 w' (Row e sz (.slice (some ⟨b, o, none⟩) n' c) n (xs.set (i.toNat * sz + off) u) • F) := by
  have hlen := H.wV
  rcases H.qX with ⟨a, hv, hn, hxs, H1⟩ | ⟨g, o', c', cur, hv, h2, h3, h4, h5, H1⟩
  · omega
  cases hv
  have hlt : i.toNat * sz + off < n * sz := Nat.lt_of_lt_of_le (by omega : i.toNat * sz + off < i.toNat * sz + sz) (by rw [← Nat.succ_mul]; exact Nat.mul_le_mul_right _ hi)
  have hle : n * sz ≤ c * sz := Nat.mul_le_mul_right _ h2
  refine (fM H1 hs hx hy h1 (by omega)).mono fun v w' H2 => ?_
  refine H2.sZ (o := o) (by simpa using hlen) rfl h2 h3 (by simp; omega) fun q hq => ?_
  rw [Array.getElem?_setIfInBounds]
  by_cases e1 : q = i.toNat * sz + off
  · subst e1
    rw [if_pos (by omega), if_pos (by omega)]
    simp [List.getD_eq_getElem?_getD, show i.toNat * sz + off < xs.length from by omega]
  · rw [if_neg (by omega), h5 q hq]
    simp only [List.getD_eq_getElem?_getD]
    rw [List.getElem?_set_ne (by omega)]
end
section
variable {w0 w : World} {F : HP}
end
end Go.Proofs.YtddekefihgejoaaGreatDoor
end
section
namespace Go.Proofs.YtddekefihgejoaaGreatDoor
open Go.RowKit
structure dw where
  a : Int
  d : Value
  dl : List Int
  i : Value
  il : List Int
instance : Inhabited dw := ⟨⟨0, .slice none 0 0, [], .slice none 0 0, []⟩⟩
def dw.enc (e : dw) : List Value := [.int .i64 e.a, e.d, e.i]
theorem dw.zf (e : dw) : e.enc.length = 3 := rfl
def dw.Wy (I : Hp) (e : dw) : Prop := xC I .i32 e.d e.dl ∧ xC I .i32 e.i e.il
theorem dw.Wy.mono {I I' : Hp} {e : dw} (hl : Hp.le I I') (h : e.Wy I) : e.Wy I' := ⟨h.1.mono hl, h.2.mono hl⟩
def dw.says (e : dw) : Int × List Int × List Int := (e.a, e.dl, e.il)
def BR (I : Hp) (es : List dw) : Prop := ∀ k, k < es.length → (es.getD k default).Wy I
theorem BR.mono {I I' : Hp} {es : List dw} (hl : Hp.le I I') (h : BR I es) : BR I' es := fun k hk => (h k hk).mono hl
theorem BR.app {I : Hp} {es fs : List dw} (h : BR I es) (g : BR I fs) : BR I (es ++ fs) := fun k hk => by
  by_cases hl : k < es.length
  · rw [ku hl]; exact h k hl
  · rw [jL (by omega)]; exact g _ (by simp at hk; omega)
theorem BR.one {I : Hp} {e : dw} (h : e.Wy I) : BR I [e] := fun k hk => by
  obtain rfl : k = 0 := by simp at hk; omega
  exact h
def jo (es : List dw) : HP := know (fun I => BR I es) fun _ _ hl h => h.mono hl
def edK (e : dw) : HP := know (fun I => e.Wy I) fun _ _ hl h => h.mono hl
def EO (v : Value) (es : List dw) : HP := Row 202 3 v es.length (es.flatMap dw.enc) • jo es
def I7 (I : Hp) (sz : Nat) (v : Value) (n : Nat) (xs : List Value) : Prop := xs.length = n * sz ∧ ∃ a c, v = .slice a n c ∧ n ≤ c ∧ (c : Int) ≤ 9223372036854775807 ∧
  (0 < n → ∃ b o cs e fr, a = some ⟨b, o, none⟩ ∧ I b = some (.cells cs e fr) ∧ ∀ j, j < n * sz → cs[o + j]? = some (xs.getD j undef))
theorem I7.mono {I I' : Hp} {sz n : Nat} {v : Value} {xs : List Value} (hl : Hp.le I I') (h : I7 I sz v n xs) : I7 I' sz v n xs := by
  obtain ⟨h0, a, c, h1, h2, h3, h4⟩ := h
  exact ⟨h0, a, c, h1, h2, h3, fun hp => let ⟨b, o, cs, e, fr, e1, e2, e3⟩ := h4 hp; ⟨b, o, cs, e, fr, e1, hl _ _ e2, e3⟩⟩
theorem I7.rd {w : World} {m : Nat} {I : Hp} {sz n : Nat} {v : Value} {xs : List Value} (h : I7 I sz v n xs) (hI : ∀ k o, I k = some o → m ≤ k ∧ w.heap[k]? = some o) : Rd w sz v n xs := by
  obtain ⟨h0, a, c, h1, h2, h3, h4⟩ := h
  exact ⟨h0, a, c, h1, h2, h3, fun hp => let ⟨b, o, cs, e, fr, e1, e2, e3⟩ := h4 hp; ⟨b, o, e1, fun j hj => iC (hI _ _ e2).2 (e3 j hj)⟩⟩
theorem I7.P8 {I : Hp} {sz n : Nat} {v : Value} {xs : List Value} (h : I7 I sz v n xs) : v.oneCell' = true := by obtain ⟨_, a, c, rfl, _⟩ := h; rfl
def WA (I : Hp) (v : Value) (es : List dw) : Prop := I7 I 3 v es.length (es.flatMap dw.enc) ∧ BR I es
theorem WA.mono {I I' : Hp} {v : Value} {es : List dw} (hl : Hp.le I I') (h : WA I v es) : WA I' v es := ⟨h.1.mono hl, h.2.mono hl⟩
def zQ (v : Value) (es : List dw) : HP := know (fun I => WA I v es) fun _ _ hl h => h.mono hl
def zh (I : Hp) (gs : List (Value × List dw)) : Prop := ∀ k, k < gs.length → WA I (gs.getD k default).1 (gs.getD k default).2
theorem zh.mono {I I' : Hp} {gs : List (Value × List dw)} (hl : Hp.le I I') (h : zh I gs) : zh I' gs := fun k hk => (h k hk).mono hl
theorem zh.app {I : Hp} {es fs : List (Value × List dw)} (h : zh I es) (g : zh I fs) : zh I (es ++ fs) := fun k hk => by
  by_cases hl : k < es.length
  · rw [ku hl]; exact h k hl
  · rw [jL (by omega)]; exact g _ (by simp at hk; omega)
theorem zh.one {I : Hp} {v : Value} {es : List dw} (h : WA I v es) : zh I [(v, es)] := fun k hk => by
  obtain rfl : k = 0 := by simp at hk; omega
  exact h
theorem zh.take {I : Hp} {gs : List (Value × List dw)} (h : zh I gs) (n : Nat) : zh I (gs.take n) := fun k hk => by
  simp at hk
  rw [Ae (by omega)]
  exact h k (by omega)
def nR (gs : List (Value × List dw)) : HP := know (fun I => zh I gs) fun _ _ hl h => h.mono hl
def zi (v : Value) (gs : List (Value × List dw)) : HP := Row 67 1 v gs.length (gs.map (·.1)) • nR gs
section
variable {w0 w : World} {F : HP} {v u : Value} {es fs : List dw} {e : dw} {gs : List (Value × List dw)} {a : Int} {d i : Value} {dl il : List Int}
theorem aB.DK (H : aB w0 w F) : aB w0 w (jo [] • F) := H.wY fun I k hk => by simp at hk
theorem aB.I8 (H : aB w0 w F) : aB w0 w (nR [] • F) := H.wY fun I k hk => by simp at hk
theorem aB.oU (H : aB w0 w F) (a : Option Addr) : aB w0 w (EO (.slice a 0 0) [] • F) := (H.DK.iE (e := 202) (sz := 3) a).deep
theorem aB.zk (H : aB w0 w F) (a : Option Addr) : aB w0 w (zi (.slice a 0 0) [] • F) := (H.I8.iE (e := 67) (sz := 1) a).deep
theorem aB.WB (H : aB w0 w (EO v es • F)) : aB w0 w (Row 202 3 v es.length (es.flatMap dw.enc) • jo es • F) := H.flat
theorem aB.Vs (H : aB w0 w (zi v gs • F)) : aB w0 w (Row 67 1 v gs.length (gs.map (·.1)) • nR gs • F) := H.flat
theorem aB.uD (H : aB w0 w (Row 202 3 v (es.length + 1) (es.flatMap dw.enc ++ [.int .i64 a, d, i]) • pU .i32 d dl • pU .i32 i il • jo es • F)) : aB w0 w (EO v (es ++ [⟨a, d, dl, i, il⟩]) • F) := by
  have h1 : aB w0 w (pU .i32 d dl • pU .i32 i il • jo es • Row 202 3 v (es.length + 1) (es.flatMap dw.enc ++ [.int .i64 a, d, i]) • F) := H.of_eq (by ac_rfl)
  have h2 : aB w0 w (edK ⟨a, d, dl, i, il⟩ • jo es • Row 202 3 v (es.length + 1) (es.flatMap dw.enc ++ [.int .i64 a, d, i]) • F) := h1.EH (ru (fun I h g => ⟨h, g⟩) _)
  have h3 : aB w0 w (jo (es ++ [⟨a, d, dl, i, il⟩]) • Row 202 3 v (es.length + 1) (es.flatMap dw.enc ++ [.int .i64 a, d, i]) • F) := h2.EH (ru (fun I h g => g.app (BR.one h)) _)
  refine aB.deep (h3.swap.of_eq ?_)
  rw [List.length_append, List.flatMap_append]
  simp [dw.enc]
theorem aB.rH (H : aB w0 w (EO v es • F)) : aB w0 w (zQ v es • F) := by
  have hl := H.WB.wV
  have H := H.WB
  rcases H.qX with ⟨a, rfl, h1, h2, H1⟩ | ⟨g, o, c, cur, rfl, h2, h3, h4, h5, H1⟩
  · refine H1.EH (qZ (fun I hI => ⟨⟨hl, a, 0, by rw [h1], by omega, by decide, fun h => by omega⟩, hI⟩) F)
  · exact H1.freeze.EH (ru (fun I hI hE => ⟨⟨hl, _, c, rfl, h2, h3, fun _ => ⟨g, o, cur, _, (0, 0), rfl, hI, h5⟩⟩, hE⟩) F)
theorem aB.yw (H : aB w0 w (zQ v es • F)) : Rd w 3 v es.length (es.flatMap dw.enc) := let ⟨I, h, hI⟩ := H.rW; h.1.rd hI
theorem aB.XB (H : aB w0 w (zQ v es • F)) {k : Nat} (hk : k < es.length) : jc w .i32 (es.getD k default).d (es.getD k default).dl := let ⟨I, h, hI⟩ := H.rW; (h.2 k hk).1.rd hI
theorem aB.XC (H : aB w0 w (zQ v es • F)) {k : Nat} (hk : k < es.length) : jc w .i32 (es.getD k default).i (es.getD k default).il := let ⟨I, h, hI⟩ := H.rW; (h.2 k hk).2.rd hI
theorem aB.I9 (H : aB w0 w (nR gs • F)) {k : Nat} (hk : k < gs.length) : aB w0 w (zQ (gs.getD k default).1 (gs.getD k default).2 • nR gs • F) := H.yM.EH (qZ (fun I h => h k hk) _)
theorem aB.Qc (H : aB w0 w (nR gs • F)) (n : Nat) : aB w0 w (nR (gs.take n) • F) := H.EH (qZ (fun I h => h.take n) _)
theorem aB.uF (H : aB w0 w (Row 67 1 v (gs.length + 1) (gs.map (·.1) ++ [u]) • zQ u es • nR gs • F)) : aB w0 w (zi v (gs ++ [(u, es)]) • F) := by
  have h1 : aB w0 w (zQ u es • nR gs • Row 67 1 v (gs.length + 1) (gs.map (·.1) ++ [u]) • F) := H.of_eq (by ac_rfl)
  have h3 : aB w0 w (nR (gs ++ [(u, es)]) • Row 67 1 v (gs.length + 1) (gs.map (·.1) ++ [u]) • F) := h1.EH (ru (fun I h g => g.app (zh.one h)) _)
  refine aB.deep (h3.swap.of_eq ?_)
  rw [List.length_append, List.map_append]
  rfl
theorem aB.Ja (H : aB w0 w (jo es • F)) : ∀ x ∈ es.flatMap dw.enc, x.oneCell' = true := by
  obtain ⟨I, h, hI⟩ := H.rW
  intro x hx
  obtain ⟨e, he, hx⟩ := List.mem_flatMap.1 hx
  obtain ⟨k, hk, rfl⟩ := List.getElem_of_mem he
  have := h k hk
  rw [List.getD_eq_getElem?_getD, List.getElem?_eq_getElem hk] at this
  simp [dw.enc] at hx
  rcases hx with rfl | rfl | rfl
  · rfl
  · exact this.1.P8
  · exact this.2.P8
end
end Go.Proofs.YtddekefihgejoaaGreatDoor
end
