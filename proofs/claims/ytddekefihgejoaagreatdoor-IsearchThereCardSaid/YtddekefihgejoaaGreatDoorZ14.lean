import Derived.Test.YtddekefihgejoaaGreatDoorZ2
import Derived.Test.YtddekefihgejoaaGreatDoorZ13
import Derived.Test.YtddekefihgejoaaGreatDoorZ7
set_option linter.unusedSimpArgs false
set_option linter.unusedVariables false
/- Texts of mine, joined, their names in short: EdU Owns EdS EdS2. -/
section
namespace Go.Proofs.YtddekefihgejoaaGreatDoor
open Go.RowKit
section
variable {w0 w : World} {F : HP} {e p : Nat} {s : bH} {x : Int}
end
end Go.Proofs.YtddekefihgejoaaGreatDoor
end
section
namespace Go.Proofs.YtddekefihgejoaaGreatDoor
open Go.RowKit
def Cc (e : TypeId) (k : IntKind) : List Value → List (List Int) → HP
  | [], [] => emp
  | v :: vs, l :: ls => iD e k v l • Cc e k vs ls
  | _, _ => fact False
section
variable {w0 w : World} {F : HP} {e : TypeId} {k : IntKind} {v : Value} {l : List Int}
theorem aB.Rq (H : aB w0 w F) : aB w0 w (Cc e k [] [] • F) := H.yN
theorem xw : ∀ (vs : List Value) (ls : List (List Int)), (Cc e k vs ls • iD e k v l) = Cc e k (vs ++ [v]) (ls ++ [l])
  | [], [] => by show (emp • iD e k v l) = (iD e k v l • emp); rw [qO]
  | u :: vs, m :: ls => by
    show ((iD e k u m • Cc e k vs ls) • iD e k v l) = (iD e k u m • Cc e k (vs ++ [v]) (ls ++ [l]))
    rw [bI, xw vs ls]
  | [], m :: ls => by
    apply HP.ext; funext I h; apply propext
    constructor
    · intro hp; exact absurd ((wz _ _ _ _).1 hp).1 id
    · intro hp
      cases ls with
      | nil => exact absurd (show False by obtain ⟨_, _, _, _, _, hb⟩ := hp; exact hb.1) id
      | cons x y => exact absurd (show False by obtain ⟨_, _, _, _, _, hb⟩ := hp; exact hb.1) id
  | u :: vs, [] => by
    apply HP.ext; funext I h; apply propext
    constructor
    · intro hp; exact absurd ((wz _ _ _ _).1 hp).1 id
    · intro hp
      cases vs with
      | nil => exact absurd (show False by obtain ⟨_, _, _, _, _, hb⟩ := hp; exact hb.1) id
      | cons x y => exact absurd (show False by obtain ⟨_, _, _, _, _, hb⟩ := hp; exact hb.1) id
theorem aB.xw {vs : List Value} {ls : List (List Int)} (H : aB w0 w (Cc e k vs ls • iD e k v l • F)) : aB w0 w (Cc e k (vs ++ [v]) (ls ++ [l]) • F) := H.deep.of_eq (by rw [Go.Proofs.YtddekefihgejoaaGreatDoor.xw])
end
end Go.Proofs.YtddekefihgejoaaGreatDoor
end
section
namespace Go.Proofs.YtddekefihgejoaaGreatDoor
open Go.RowKit
open _root_.Go.Proofs.Tryz
section
variable {w0 w : World} {F : HP} {e p ph pw pt pr pm : Nat} {s : bH} {k x place : Int} {hl : List lC} {base most : Int} {tx : Int → Option ByteArray} {v : Value}
theorem JG (H : aB w0 w (dn p hl base most • F)) : gG prog 160 #[.pointer (some ⟨p, 0, none⟩), .int .i64 k] w fun v w' =>
  v = .tuple #[.agg #[.string (KZ hl k).1, .int .i64 (KZ hl k).2], .bool (decide (0 ≤ k ∧ k < hl.length))] ∧ aB w0 w' (dn p hl base most • F) := by
 have hb : hl.length ≤ 4096 := by obtain ⟨v, h, _⟩ := H.hist; exact h.1
 refine iF func160 ntmps160 ?_
 dsimp only [bg, Nat.reduceAdd]
 refine ay (ah (iw (cZ (l := [_, _]) H zeroValue84 rfl) ?_))
 rintro _ w1 ⟨b1, rfl, H1⟩
 refine aW rfl (aA (aj (ay (ay (ah (aI rfl (aU (dB rfl rfl) (iM rfl (fun h1 => ?_) (fun h1 => ?_)))))))))
 ·(try simp only [aG] at h1)
  refine aZ (aZ (aZ (aZ (fK rfl rfl (aA (aj (zM (ay (ah (aU (dF (zl := [.string .empty, .int .i64 0]) (pl := [(0, 1), (1, 1)]) [_, _] underlying84 zeroValue84 rfl (fun w => by kernel_rfl) rfl (.zero (zs := [.string .empty]) rfl (.zero (zs := [.int .i64 0]) rfl .nil)) rfl) (aJ (bG 0 (l' := [_, _]) (us := [_, _]) H1 sizeOf84 rfl rfl rfl (aC (by first | rfl | assumption) (aC (by first | rfl | assumption) bn)) rfl rfl) ?_)))))))))))
  rintro _ w2 H2
  refine aW rfl (aA (aj (aK (aN ?_))))
  refine kM (.inl rfl) (Me results160 rfl rfl underlying84 rfl (by rw [show (prog.info? 84).map (·.size) = some 2 from by kernel_rfl]; rfl) (H2).get.2) ?_
  exact ⟨by unfold KZ; rw [if_neg (by omega), decide_eq_false (by omega)], H2.right⟩
 ·(try simp only [aG] at h1)
  refine aY (aI rfl (aY (aI rfl (aY (dH rfl func84 (jC H1.f2) ?_)))))
  rintro _ w3 ⟨rfl, H3⟩
  refine aY (aU (o8 rfl rfl) (fC rfl rfl (aA (aj (aP rfl (fun h2 => ?_) (fun h2 => ?_))))))
  ·(try simp only [aG] at h2)
   refine ay (ah (aU (dF (zl := [.string .empty, .int .i64 0]) (pl := [(0, 1), (1, 1)]) [_, _] underlying84 zeroValue84 rfl (fun w => by kernel_rfl) rfl (.zero (zs := [.string .empty]) rfl (.zero (zs := [.int .i64 0]) rfl .nil)) rfl) (aJ (bG 0 (l' := [_, _]) (us := [_, _]) H3.f2 sizeOf84 rfl rfl rfl (aC (by first | rfl | assumption) (aC (by first | rfl | assumption) bn)) rfl rfl) ?_)))
   rintro _ w4 H4
   refine aW rfl (aA (aj (aK (aN ?_))))
   refine kM (.inl rfl) (Me results160 rfl rfl underlying84 rfl (by rw [show (prog.info? 84).map (·.size) = some 2 from by kernel_rfl]; rfl) (H4).get.2) ?_
   exact ⟨by unfold KZ; rw [if_neg (by omega), decide_eq_false (by omega)], H4.right⟩
  ·(try simp only [aG] at h2)
   refine aO (aj (ay ?_))
   obtain ⟨m, rfl⟩ := Int.eq_ofNat_of_zero_le (show 0 ≤ k by omega)
   obtain ⟨QA, uI, vK⟩ := (H3).hist
   refine ah (aI rfl (bQ rfl (bC 0 underlying176 rfl sizeOf174 rfl (bC 0 underlying174 rfl sizeOf24 rfl (eu underlying24 rfl (vK).get.2 rfl (aI rfl ?_))))))
   obtain ⟨abw, abx, aby, Yq⟩ := Rd.kV ((vK.f2).aT) (by omega)
   cases Yq
   refine aU (bY underlying24 sizeOf84 rfl rfl (by omega)) (aU (jf (ys := [_, _]) ((vK.f2).aT) (by omega) underlying84 rfl sizeOf84 rfl (kC uH (by omega) default) rfl) (aJ (bG 0 (l' := [_, _]) (us := [_, _]) vK.f3 sizeOf84 rfl rfl rfl (aC (by first | rfl | assumption) (aC (by first | rfl | assumption) bn)) rfl rfl) ?_))
   rintro _ w6 H6
   refine aW rfl (aA (aj (aK ?_)))
   refine kM (.inl rfl) (Me results160 rfl rfl underlying84 rfl (by rw [show (prog.info? 84).map (·.size) = some 2 from by kernel_rfl]; rfl) (H6).get.2) ?_
   have Yf := H6.f3.f3
   have WM := aB.qx uI Yf
   exact ⟨by unfold KZ; rw [if_pos (by omega), decide_eq_true (by omega)]; rfl, WM.f2.right⟩
theorem zH {x0 x1 x2 x3 x4 x5 x6 x7 x8 x9 x10 x12 zF x14 x15 x16 x17 x18 x19 x20 x21 yK x23 x24 x25 yL x27 x28 x29 x30 x31 x32 Bl : Value} (H : aB w0 w (dh e (.cells (x0 :: x1 :: x2 :: x3 :: x4 :: x5 :: x6 :: x7 :: x8 :: x9 :: x10 :: .pointer (some ⟨ph, 0, none⟩) :: x12 :: zF :: x14 :: x15 :: x16 :: x17 :: x18 :: x19 :: x20 :: x21 :: yK :: x23 :: x24 :: x25 :: yL :: x27 :: x28 :: x29 :: x30 :: x31 :: x32 :: Bl :: []).toArray 69 (0, 0)) • dn ph hl base most • F)) : gG prog 116 #[.pointer (some ⟨e, 0, none⟩), .int .i64 k] w fun v w' =>
  v = .string (sJ hl k) ∧ aB w0 w' (dh e (.cells (x0 :: x1 :: x2 :: x3 :: x4 :: x5 :: x6 :: x7 :: x8 :: x9 :: x10 :: .pointer (some ⟨ph, 0, none⟩) :: x12 :: zF :: x14 :: x15 :: x16 :: x17 :: x18 :: x19 :: x20 :: x21 :: yK :: x23 :: x24 :: x25 :: yL :: x27 :: x28 :: x29 :: x30 :: x31 :: x32 :: Bl :: []).toArray 69 (0, 0)) • dn ph hl base most • F) := by
 refine iF func116 ntmps116 ?_
 dsimp only [bg, Nat.reduceAdd]
 refine ay (ah (aW rfl (aA (aj (ay (ah (aI rfl (bQ rfl (bC 11 underlying69 rfl sizeOf65 rfl (eu underlying65 rfl (H).get.2 rfl (aI rfl (dH rfl func160 (JG H.f2) ?_))))))))))))
 rintro _ w1 ⟨rfl, H1⟩
 refine aI rfl (wU rfl rfl (wU rfl rfl (iw (cZ (l := [_, _]) H1 zeroValue84 rfl) ?_)))
 rintro _ w2 ⟨b2, rfl, H2⟩
 refine aJ (bG 0 (l' := [_, _]) (us := [_, _]) H2 sizeOf84 rfl rfl rfl (aC (by first | rfl | assumption) (aC (by first | rfl | assumption) bn)) rfl rfl) ?_
 rintro _ w3 H3
 refine aW rfl (aA (aj (ay (ah (bC 0 underlying84 rfl sizeOf9 rfl (eu underlying9 rfl (H3).get.2 rfl (aW rfl (aA (aj (aK (aQ (.inl rfl) results116 rfl ?_)))))))))))
 exact ⟨rfl, H3.right.f2⟩
theorem OD {t : ByteArray} (h : tx k = some t) : (lq tx k).getD (.string .empty) = .string t ∧ (lq tx k).isSome = true := by unfold lq; rw [h]; exact ⟨rfl, rfl⟩
theorem Bz : (lq tx k).isSome = (tx k).isSome := by unfold lq; cases tx k <;> rfl
theorem lN {x0 x1 x3 x4 x5 x6 x7 x8 x9 x10 x12 zF x14 x15 x16 x17 x18 x19 x20 x21 yK x23 x24 x25 yL x27 x28 x29 x30 x31 x32 Bl : Value} (H : aB w0 w (dh e (.cells (x0 :: x1 :: .pointer (some ⟨pw, 0, none⟩) :: x3 :: x4 :: x5 :: x6 :: x7 :: x8 :: x9 :: x10 :: .pointer (some ⟨ph, 0, none⟩) :: x12 :: zF :: x14 :: x15 :: x16 :: x17 :: x18 :: x19 :: x20 :: x21 :: yK :: x23 :: x24 :: x25 :: yL :: x27 :: x28 :: x29 :: x30 :: x31 :: x32 :: Bl :: []).toArray 69 (0, 0)) • dh pw (.cells #[v, .map (some pt)] 125 (0, 0)) • dU lg pt (lq tx) • dn ph hl base most • F)) :
  gG prog 86 #[.pointer (some ⟨e, 0, none⟩), .int .i64 k] w fun v' w' =>
  v' = .string (fF hl tx k) ∧ aB w0 w' (dh e (.cells (x0 :: x1 :: .pointer (some ⟨pw, 0, none⟩) :: x3 :: x4 :: x5 :: x6 :: x7 :: x8 :: x9 :: x10 :: .pointer (some ⟨ph, 0, none⟩) :: x12 :: zF :: x14 :: x15 :: x16 :: x17 :: x18 :: x19 :: x20 :: x21 :: yK :: x23 :: x24 :: x25 :: yL :: x27 :: x28 :: x29 :: x30 :: x31 :: x32 :: Bl :: []).toArray 69 (0, 0)) • dh pw (.cells #[v, .map (some pt)] 125 (0, 0)) • dU lg pt (lq tx) • dn ph hl base most • F) := by
 refine iF func86 ntmps86 ?_
 dsimp only [bg, Nat.reduceAdd]
 refine ay (ah (aW rfl (aA (aj (ay (ay (ah (aI rfl (bQ rfl (bC 0 underlying69 rfl sizeOf64 rfl (bC 2 underlying64 rfl sizeOf61 rfl (eu underlying61 rfl (H).get.2 rfl (bQ rfl (bC 1 underlying125 rfl sizeOf123 rfl (eu underlying123 rfl (H.f2).get.2 rfl (aI rfl (aU (Jo (H.f3) underlying123 underlying3 zeroValue9 rfl rfl) (aI rfl (wU rfl rfl (wU rfl rfl (aW rfl (aW rfl (aA (aj (ay (ah (aI rfl (aA (aj (aP rfl (fun h1 => ?_) (fun h1 => ?_)))))))))))))))))))))))))))))))
 ·(try simp only [aG] at h1)
  obtain ⟨tt, htt⟩ := Option.isSome_iff_exists.1 (Bz (tx := tx) ▸ h1)
  refine ay (ah (aI rfl (aW rfl (aA (aj (aK (aN (aQ (.inl rfl) results86 rfl ?_))))))))
  exact ⟨by unfold fF; rw [htt]; show (lq tx k).getD (.string .empty) = _; rw [(OD htt).1]; rfl, H.f4.f4.f4.f4⟩
 ·(try simp only [aG] at h1)
  have htt : tx k = none := by have := Bz (tx := tx) (k := k) ▸ h1; simpa using this
  refine aO (aj (ay (ah (aI rfl (aI rfl (dH rfl func116 (zH H.f4.f2) ?_))))))
  rintro _ w1 ⟨rfl, H1⟩
  refine aW rfl (aA (aj (aK (aQ (.inl rfl) results86 rfl ?_))))
  exact ⟨by unfold fF; rw [htt]; rfl, H1.f2.f4.f4.f4⟩
end
end Go.Proofs.YtddekefihgejoaaGreatDoor
end
section
namespace Go.Proofs.YtddekefihgejoaaGreatDoor
open Go.RowKit
open _root_.Go.Proofs.Tryz
theorem JH {D : List Int} {P : Int → Nat} {k : Int} (h : (Ec D P k).isSome = true) : k ∈ D := by
  unfold Ec at h
  split at h
  · assumption
  · cases h
theorem Hf {D : List Int} {P : Int → Nat} {k : Int} (h : (Ec D P k).isSome = false) : k ∉ D := by
  unfold Ec at h
  split at h
  · cases h
  · assumption
def FT (x : Int × ByteArray) : List Value := [.int .i64 x.1, .string x.2]
theorem OE (x : Int × ByteArray) : (FT x).length = 2 := rfl
theorem JI {hl : List lC} {tx : Int → Option ByteArray} {place : Int} {i : Nat} (h : oW hl tx place i = true) : jG hl tx place (i + 1) = jG hl tx place i ++ [((i : Int), fF hl tx i)] := by
  unfold jG; rw [List.range_succ, List.filter_append, List.map_append]; simp [List.filter, h]
theorem Ep {hl : List lC} {tx : Int → Option ByteArray} {place : Int} {i : Nat} (h : oW hl tx place i = false) : jG hl tx place (i + 1) = jG hl tx place i := by
  unfold jG; rw [List.range_succ, List.filter_append, List.map_append]; simp [List.filter, h]
theorem mF (hl : List lC) (tx : Int → Option ByteArray) (place : Int) (i : Nat) : (jG hl tx place i).length ≤ i := by
  unfold jG; rw [List.length_map]
  exact Nat.le_trans (List.length_filter_le _ _) (by simp)
def sQ (E : List (List Int)) (a : Nat) : List (List Int) := E.drop a ++ E.take a
def Rt (n a i : Nat) : Nat := if i = 0 then a else (a + (i - 1)) % n
theorem OG {n a i : Nat} : Ac n (Rt n a i) (min (i : Int) 1) = Rt n a (i + 1) := by
  cases i with
  | zero =>
    show (((a : Int) + min ((0 : Nat) : Int) 1) % (n : Int)).toNat = (a + (0 + 1 - 1)) % n
    rw [show min ((0 : Nat) : Int) 1 = 0 by omega, Int.add_zero, show ((a : Int) % (n : Int)) = ((a % n : Nat) : Int) from rfl, Int.toNat_natCast]
    rfl
  | succ j =>
    show (((((a + (j + 1 - 1)) % n : Nat) : Int) + min ((j + 1 : Nat) : Int) 1) % (n : Int)).toNat = (a + (j + 1 + 1 - 1)) % n
    rw [show min ((j + 1 : Nat) : Int) 1 = ((1 : Nat) : Int) by omega, show ((((a + (j + 1 - 1)) % n : Nat) : Int) + ((1 : Nat) : Int)) % (n : Int) = ((((a + (j + 1 - 1)) % n + 1) % n : Nat) : Int) from rfl, Int.toNat_natCast, Nat.mod_add_mod]
    congr 1
theorem OH {E : List (List Int)} {a i : Nat} (h : i < E.length) (ha : a < E.length) : (sQ E a).getD i [] = E.getD (Rt E.length a (i + 1)) [] := by
  unfold sQ Rt
  rw [if_neg (by omega), Nat.add_sub_cancel, List.getD_eq_getElem?_getD, List.getD_eq_getElem?_getD]
  by_cases hi : i < E.length - a
  · rw [List.getElem?_append_left (by simpa using hi), List.getElem?_drop, Nat.mod_eq_of_lt (by omega)]
  · rw [List.getElem?_append_right (by simpa using hi), List.length_drop, List.getElem?_take, if_pos (by omega)]
    have : (a + i) % E.length = i - (E.length - a) := by
      rw [show a + i = (i - (E.length - a)) + E.length by omega, Nat.add_mod_right, Nat.mod_eq_of_lt (by omega)]
    rw [this]
theorem Es {α : Type _} {l : List α} {k : Nat} {d : α} (h : k < l.length) : l.take (k + 1) = l.take k ++ [l.getD k d] := by rw [List.take_succ_eq_append_getElem h, List.getD_eq_getElem?_getD, List.getElem?_eq_getElem h]; rfl
theorem FU (E : List (List Int)) (a : Nat) : (sQ E a).length = E.length := by unfold sQ; simp; omega
section
variable {w0 w : World} {F : HP} {e p ph pw pt pr pm pb : Nat} {s : bH} {k x place : Int} {hl : List lC} {base most cls : Int} {tx : Int → Option ByteArray} {v pv : Value} {U : Int → List (List fJ)} {put : List fJ} {xs : List Value} {inn run whole : Bool} {E : List (List Int)} {a : Nat} {L : List Int} {V5 mk : Int}
theorem wP {x0 x1 x2 x3 x4 x5 x6 x7 x8 x9 x10 x12 zF x14 x15 x16 x17 x18 x19 x20 x21 yK x23 x24 x25 yL x27 x28 x29 x30 x31 x32 Bl : Value} (H : aB w0 w (dh e (.cells (x0 :: x1 :: x2 :: x3 :: x4 :: x5 :: x6 :: x7 :: x8 :: x9 :: x10 :: .pointer (some ⟨ph, 0, none⟩) :: x12 :: zF :: x14 :: x15 :: x16 :: x17 :: x18 :: x19 :: x20 :: x21 :: yK :: x23 :: x24 :: x25 :: yL :: x27 :: x28 :: x29 :: x30 :: x31 :: x32 :: Bl :: []).toArray 69 (0, 0)) • F)) : gG prog 54 #[.pointer (some ⟨e, 0, none⟩)] w fun v w' => v = .bool false ∧ w = w' := by
 refine iF func54 ntmps54 ?_
 dsimp only [bg, Nat.reduceAdd]
 refine ay (ah (aW rfl (aA (aj (ay (ah (aI rfl (aU (iI underlying30 rfl rfl) (iM rfl (fun h1 => ?_) (fun h1 => ?_))))))))))
 ·(try simp only [aG] at h1)
  try (exfalso; first | contradiction | omega)
  all_goals
   refine aZ (aZ (aZ (aZ (aZ (fK rfl rfl (aW rfl (aA (aj (aK (aQ (.inl rfl) results54 rfl ?_))))))))))
   exact ⟨rfl, rfl⟩
 ·(try simp only [aG] at h1)
  try (exfalso; first | contradiction | omega)
  all_goals
   refine aY (aI rfl (aY (bQ rfl (aY (bC 11 underlying69 rfl sizeOf65 rfl (aY (eu underlying65 rfl (H).get.2 rfl (aY (aU (iI underlying65 rfl rfl) (fC rfl rfl (aW rfl (aA (aj (aK (aQ (.inl rfl) results54 rfl ?_)))))))))))))))
   exact ⟨rfl, rfl⟩
theorem lQ {x0 x1 x4 x5 x6 x7 x8 x9 x11 x12 zF x14 x15 x17 x18 x19 x20 x21 yK x23 x24 x25 yL x27 x29 x30 x31 : Value} (H : aB w0 w (dh e (.cells (x0 :: x1 :: .pointer (some ⟨pw, 0, none⟩) :: .map (some pm) :: x4 :: x5 :: x6 :: x7 :: x8 :: x9 :: .bool run :: x11 :: x12 :: zF :: x14 :: x15 :: .bool inn :: x17 :: x18 :: x19 :: x20 :: x21 :: yK :: x23 :: x24 :: x25 :: yL :: x27 :: .int .i64 cls :: x29 :: x30 :: x31 :: .bool whole :: pv :: []).toArray 69 (0, 0)) • dh pw (.cells #[.int .i64 k, .map (some pt)] 125 (0, 0)) • pV pm U • Row 202 3 pv put.length xs • F)) (hU : (U k).length ≤ 16384) :
    gG prog 57 #[.pointer (some ⟨e, 0, none⟩)] w fun v' w' => v' = .int .i64 (lM (U k) inn put (cls == 3 && whole) run) ∧
      aB w0 w' (dh e (.cells (x0 :: x1 :: .pointer (some ⟨pw, 0, none⟩) :: .map (some pm) :: x4 :: x5 :: x6 :: x7 :: x8 :: x9 :: .bool run :: x11 :: x12 :: zF :: x14 :: x15 :: .bool inn :: x17 :: x18 :: x19 :: x20 :: x21 :: yK :: x23 :: x24 :: x25 :: yL :: x27 :: .int .i64 cls :: x29 :: x30 :: x31 :: .bool whole :: pv :: []).toArray 69 (0, 0)) • dh pw (.cells #[.int .i64 k, .map (some pt)] 125 (0, 0)) • pV pm U • Row 202 3 pv put.length xs • F) := by
  refine iF func57 ntmps57 ?_
  dsimp only [bg, Nat.reduceAdd]
  refine ay (ah (aW rfl (aA (aj (ay (ah (aW rfl (aA (aj ?_)))))))))
  refine lT [(0, _)] (fun (_ : Unit) => [(3, .int .i64 ((U k).length : Int))]) (fun (_ : Unit) W => aB w0 W (dh e (.cells (x0 :: x1 :: .pointer (some ⟨pw, 0, none⟩) :: .map (some pm) :: x4 :: x5 :: x6 :: x7 :: x8 :: x9 :: .bool run :: x11 :: x12 :: zF :: x14 :: x15 :: .bool inn :: x17 :: x18 :: x19 :: x20 :: x21 :: yK :: x23 :: x24 :: x25 :: yL :: x27 :: .int .i64 cls :: x29 :: x30 :: x31 :: .bool whole :: pv :: []).toArray 69 (0, 0)) • dh pw (.cells #[.int .i64 k, .map (some pt)] 125 (0, 0)) • pV pm U • Row 202 3 pv put.length xs • F)) (Sub.cons rfl (Sub.nil _)) ?_ ?_
  · rintro _ w1 HJ
    dsimp only [List.cons_append, List.nil_append]
    refine ay (ay (ah (aI rfl (bQ rfl (bC 16 underlying69 rfl sizeOf4 rfl (eu underlying4 rfl (HJ).get.2 rfl (iM rfl (fun h1 => ?_) (fun h1 => ?_))))))))
    · (try simp only [aG] at h1)
      have hin := h1
      refine aY (aI rfl (aY (bQ rfl (aY (bC 33 underlying69 rfl sizeOf67 rfl (aY (eu underlying67 rfl (HJ).get.2 rfl (aY (aU (eX ((HJ.f4).aT) underlying67 rfl) (aY (aU (fB rfl rfl) (fK rfl rfl (iM rfl (fun h2 => ?_) (fun h2 => ?_))))))))))))))
      · (try simp only [aG] at h2)
        have hno : put.isEmpty = false := by rw [kE]; exact decide_eq_false (by omega)
        refine aY (aI rfl (aY (bQ rfl (aY (bC 28 underlying69 rfl sizeOf3 rfl (aY (eu underlying3 rfl (HJ).get.2 rfl (aY (aU (gU rfl rfl) (aY (iM rfl (fun h3 => ?_) (fun h3 => ?_))))))))))))
        · (try simp only [aG] at h3)
          have hcl := h3
          refine aY (aI rfl (aY (bQ rfl (aY (bC 32 underlying69 rfl sizeOf4 rfl (aY (eu underlying4 rfl (HJ).get.2 rfl (aY (fK rfl rfl (aY (iM rfl (fun h4 => ?_) (fun h4 => ?_))))))))))))
          · (try simp only [aG] at h4)
            have hwh := h4
            refine aY (aI rfl (aY (bQ rfl (aY (bC 0 underlying69 rfl sizeOf64 rfl (aY (bC 10 underlying64 rfl sizeOf4 rfl (aY (eu underlying4 rfl (HJ).get.2 rfl (aY (fK rfl rfl (aY (aU (gQ rfl) (fK rfl rfl (aA (aj (aP rfl (fun h5 => ?_) (fun h5 => ?_))))))))))))))))))
            · (try simp only [aG] at h5)
              have hrn := h5
              refine ah (aI rfl (aU (dG rfl rfl (by omega)) (aW rfl (aA (aj (ay (ah (aI rfl (aW rfl (aA (aj (aK (aQ (.inl rfl) results57 rfl ?_)))))))))))))
              refine ⟨?_, HJ.f4.f4.f4.f4⟩
              congr 1
              unfold lM
              first
                | exact absurd hrn (by decide)
                | (simp [hin]; done)
                | (simp [hin, hno]; done)
                | (simp [hin, hno, hcl]; done)
                | (simp [hin, hno, hcl, hwh]; done)
                | (simp [hin, hno, hcl, hwh, hrn]; done)
            · (try simp only [aG] at h5)
              have hrn := h5
              refine aO (aj (ay (ah (aI rfl (aW rfl (aA (aj (aK (aQ (.inl rfl) results57 rfl ?_)))))))))
              refine ⟨?_, HJ.f4.f4.f4.f4⟩
              congr 1
              unfold lM
              first
                | exact absurd hrn (by decide)
                | (simp [hin]; done)
                | (simp [hin, hno]; done)
                | (simp [hin, hno, hcl]; done)
                | (simp [hin, hno, hcl, hwh]; done)
                | (simp [hin, hno, hcl, hwh, hrn]; done)
          · (try simp only [aG] at h4)
            have hwh := h4
            refine aZ (aZ (aZ (aZ (aZ (aY (fC rfl rfl (aY (aU (gQ rfl) (fK rfl rfl (aA (aj (aP rfl (fun h6 => ?_) (fun h6 => ?_)))))))))))))
            · (try simp only [aG] at h6)
              have hrn := h6
              refine ah (aI rfl (aU (dG rfl rfl (by omega)) (aW rfl (aA (aj (ay (ah (aI rfl (aW rfl (aA (aj (aK (aQ (.inl rfl) results57 rfl ?_)))))))))))))
              refine ⟨?_, HJ.f4.f4.f4.f4⟩
              congr 1
              unfold lM
              first
                | exact absurd hrn (by decide)
                | (simp [hin]; done)
                | (simp [hin, hno]; done)
                | (simp [hin, hno, hcl]; done)
                | (simp [hin, hno, hcl, hwh]; done)
                | (simp [hin, hno, hcl, hwh, hrn]; done)
            · (try simp only [aG] at h6)
              have hrn := h6
              refine aO (aj (ay (ah (aI rfl (aW rfl (aA (aj (aK (aQ (.inl rfl) results57 rfl ?_)))))))))
              refine ⟨?_, HJ.f4.f4.f4.f4⟩
              congr 1
              unfold lM
              first
                | exact absurd hrn (by decide)
                | (simp [hin]; done)
                | (simp [hin, hno]; done)
                | (simp [hin, hno, hcl]; done)
                | (simp [hin, hno, hcl, hwh]; done)
                | (simp [hin, hno, hcl, hwh, hrn]; done)
        · (try simp only [aG] at h3)
          have hcl := h3
          refine aZ (aZ (aZ (aZ (aY (fC rfl rfl (aY (aI rfl (aZ (aZ (aZ (aZ (aZ (aY (fC rfl rfl (aY (aU (gQ rfl) (fK rfl rfl (aA (aj (aP rfl (fun h7 => ?_) (fun h7 => ?_)))))))))))))))))))))
          · (try simp only [aG] at h7)
            have hrn := h7
            refine ah (aI rfl (aU (dG rfl rfl (by omega)) (aW rfl (aA (aj (ay (ah (aI rfl (aW rfl (aA (aj (aK (aQ (.inl rfl) results57 rfl ?_)))))))))))))
            refine ⟨?_, HJ.f4.f4.f4.f4⟩
            congr 1
            unfold lM
            first
              | exact absurd hrn (by decide)
              | (simp [hin]; done)
              | (simp [hin, hno]; done)
              | (simp [hin, hno, hcl]; done)
              | (simp [hin, hno, hcl, hwh]; done)
              | (simp [hin, hno, hcl, hwh, hrn]; done)
          · (try simp only [aG] at h7)
            have hrn := h7
            refine aO (aj (ay (ah (aI rfl (aW rfl (aA (aj (aK (aQ (.inl rfl) results57 rfl ?_)))))))))
            refine ⟨?_, HJ.f4.f4.f4.f4⟩
            congr 1
            unfold lM
            first
              | exact absurd hrn (by decide)
              | (simp [hin]; done)
              | (simp [hin, hno]; done)
              | (simp [hin, hno, hcl]; done)
              | (simp [hin, hno, hcl, hwh]; done)
              | (simp [hin, hno, hcl, hwh, hrn]; done)
      · (try simp only [aG] at h2)
        have hno : put.isEmpty = true := by rw [kE]; exact decide_eq_true (by omega)
        refine aZ (aZ (aZ (aZ (aZ (aZ (bT (bT (bT (bT (aZ (aZ (bT (bT (bT (bT (bT (aZ (aZ (fC rfl rfl (aA (aj (nY (aO (aj (ay (ah (aI rfl (aW rfl (aA (aj (aK (aQ (.inl rfl) results57 rfl ?_))))))))))))))))))))))))))))))))
        refine ⟨?_, HJ.f4.f4.f4.f4⟩
        congr 1
        unfold lM
        first
          | exact absurd hrn (by decide)
          | (simp [hin]; done)
          | (simp [hin, hno]; done)
          | (simp [hin, hno, hcl]; done)
          | (simp [hin, hno, hcl, hwh]; done)
          | (simp [hin, hno, hcl, hwh, hrn]; done)
    · (try simp only [aG] at h1)
      have hin := h1
      refine aZ (aZ (aZ (aZ (aZ (aZ (fC rfl rfl (aI rfl (aZ (aZ (aZ (aZ (aZ (aZ (bT (bT (bT (bT (aZ (aZ (bT (bT (bT (bT (bT (aZ (aZ (fC rfl rfl (aA (aj (nY (aO (aj (ay (ah (aI rfl (aW rfl (aA (aj (aK ?_)))))))))))))))))))))))))))))))))))))))
      refine aQ (.inl rfl) results57 rfl ?_
      refine ⟨?_, HJ.f4.f4.f4.f4⟩
      congr 1
      unfold lM
      first
        | exact absurd hrn (by decide)
        | (simp [hin]; done)
        | (simp [hin, hno]; done)
        | (simp [hin, hno, hcl]; done)
        | (simp [hin, hno, hcl, hwh]; done)
        | (simp [hin, hno, hcl, hwh, hrn]; done)
  · skip
    refine ay ?_
    obtain ⟨D, P, hD1, hD2, HU⟩ := (H.f3).QJ
    have OI := HU.drew
    have kK := aB.kp (OI.f5.f5.f5.f5.f5)
    refine wo [4, 9, 12, 13] kK rfl (gV 0 rfl kK rfl (iZ 1 rfl kK rfl (dV 2 rfl kK 0 underlying69 rfl sizeOf64 rfl (dV 3 rfl kK 3 underlying64 rfl sizeOf62 rfl (iy 4 rfl kK (fun W hW => iQ underlying62 rfl ((Kp.h hW).f3).get.2 rfl) (gV 5 rfl kK rfl (iZ 6 rfl kK rfl (dV 7 rfl kK 0 underlying69 rfl sizeOf64 rfl (dV 8 rfl kK 2 underlying64 rfl sizeOf61 rfl (iy 9 rfl kK (fun W hW => iQ underlying61 rfl ((Kp.h hW).f3).get.2 rfl) (iZ 10 rfl kK rfl (dV 11 rfl kK 0 underlying125 rfl sizeOf3 rfl (iy 12 rfl kK (fun W hW => iQ underlying3 rfl ((Kp.h hW).f4).get.2 rfl) (iy 13 rfl kK (fun W hW => WW (Jm ((Kp.h hW)) underlying62 underlying3 zeroValue187 rfl rfl) (Na D P k)) (iR 14 rfl kK (fun _ => fA rfl) (nJ (aj (ay (ah (aI rfl (aU (Df underlying187 rfl rfl) (aA (aj (aP rfl (fun h8 => ?_) (fun h8 => ?_)))))))))))))))))))))))))
    · (try simp only [aG] at h8)
      have hmem := JH h8
      rw [Jy hmem]
      have HF := OI.f2
      rw [mD hmem] at HF
      have HF2 := HF.flat
      refine ah (aI rfl (dH rfl func117 (Gy HF2) ?_))
      rintro _ w2 ⟨rfl, H2⟩
      have Zw := H2.f2.f2
      have Zx := aB.of_eq Zw (by rw [← bI, ← mD hmem])
      have XD := Zx.f2
      have XE := aB.xu hD1 hD2 XD
      refine aW rfl (aA ?_)
      refine bF (()) ?_ ?_ ?_
      · exact (Sub.dQ rfl (by first | (rw [hD2 _ hnm]; rfl) | (simp; done)) (Sub.nil _))
      · exact (Sub.cons rfl (Sub.nil _))
      · (try dsimp only)
        first | done | exact XE.f4.f2.f4.f4
    · (try simp only [aG] at h8)
      have hnm := Hf h8
      have Qu := OI.f2.f2
      have Oo := aB.xu hD1 hD2 Qu
      refine aO ?_
      refine bF (()) ?_ ?_ ?_
      · exact (Sub.dQ rfl (by first | (rw [hD2 _ hnm]; rfl) | (simp; done)) (Sub.nil _))
      · exact (Sub.cons rfl (Sub.nil _))
      · (try dsimp only)
        first | done | exact Oo.f4.f2.f4.f4
theorem vP {x0 x2 x3 x4 x5 x6 x7 x8 x9 x10 x12 zF x14 x15 x16 x17 x18 x19 x20 x21 yK x23 x24 x25 yL x27 x28 x29 x30 x31 x32 Bl : Value} (H : aB w0 w (dh e (.cells (x0 :: .pointer (some ⟨pr, 0, none⟩) :: x2 :: x3 :: x4 :: x5 :: x6 :: x7 :: x8 :: x9 :: x10 :: .pointer (some ⟨ph, 0, none⟩) :: x12 :: zF :: x14 :: x15 :: x16 :: x17 :: x18 :: x19 :: x20 :: x21 :: yK :: x23 :: x24 :: x25 :: yL :: x27 :: x28 :: x29 :: x30 :: x31 :: x32 :: Bl :: []).toArray 69 (0, 0)) • dW pr E a • F)) : gG prog 55 #[.pointer (some ⟨e, 0, none⟩)] w fun v' w' =>
  ∃ us, aB w0 w' (Row 23 1 v' E.length us • Cc 21 .i32 us (sQ E a) • dh e (.cells (x0 :: .pointer (some ⟨pr, 0, none⟩) :: x2 :: x3 :: x4 :: x5 :: x6 :: x7 :: x8 :: x9 :: x10 :: .pointer (some ⟨ph, 0, none⟩) :: x12 :: zF :: x14 :: x15 :: x16 :: x17 :: x18 :: x19 :: x20 :: x21 :: yK :: x23 :: x24 :: x25 :: yL :: x27 :: x28 :: x29 :: x30 :: x31 :: x32 :: Bl :: []).toArray 69 (0, 0)) • dW pr E a • F) := by
 obtain ⟨hE1, hE2, hE3⟩ := KN H.swap
 refine iF func55 ntmps55 ?_
 dsimp only [bg, Nat.reduceAdd]
 refine ay (ah (aW rfl (aA (aj (ay (ay (ah (aI rfl (dH rfl func54 (wP H) ?_)))))))))
 rintro _ _ ⟨rfl, rfl⟩
 refine aA (aj (nY (aO (aj (ay (ah (aW rfl (aA (aj (ay (ah (aI rfl (bQ rfl (bC 0 underlying69 rfl sizeOf64 rfl (bC 1 underlying64 rfl sizeOf60 rfl (eu underlying60 rfl (H).get.2 rfl (dH rfl func113 (wJ H.f2) ?_)))))))))))))))))
 rintro _ w2 ⟨pc2, rfl, H2⟩
 refine aW rfl (aA (aj (ay (ay (ah (aI rfl (dH rfl func114 (Gv H2) ?_)))))))
 rintro _ _ ⟨rfl, rfl⟩
 refine aI rfl (aA (aj (bf ?_)))
 obtain ⟨R4, Yg, HR4⟩ := aB.WS (H2)
 refine eP [(4, _), (17, _)] (fun (⟨i, u⟩ : Nat × Value) => [(3, u), (18, .int .i64 (i : Int))]) (fun (⟨i, u⟩ : Nat × Value) W => i ≤ E.length ∧ ∃ us, aB w0 W (Row 23 1 u i us • Cc 21 .i32 us ((sQ E a).take i) • dW pc2 E (Rt E.length a i) • R4)) (fun (⟨i, u⟩ : Nat × Value) => E.length - i) ((0, .slice none 0 0)) (Sub.cons rfl (Sub.cons rfl (Sub.nil _))) (Sub.cons rfl (Sub.cons rfl (Sub.nil _))) ⟨by omega, [], HR4.Rq.iE none⟩ ?_
 rintro ⟨i, u⟩ w5 ⟨hi, us, HL⟩
 dsimp only [List.cons_append, List.nil_append]
 refine ay (ah (aU (dB rfl rfl) (aA (aj (ay (aP rfl (fun h1 => ?_) (fun h1 => ?_)))))))
 ·(try simp only [aG] at h1)
  refine aO (aj (ay (bf (ay (ah (aI rfl (aW rfl (aA (aj (ay (ah (aI rfl (aI rfl (aU (Pm rfl rfl) (dH rfl func115 (BP HL.f3) ?_)))))))))))))))
  rintro _ w6 ⟨u6, rfl, H6⟩
  have hne : ¬ E.length = 0 := by omega
  have HX := H6
  simp only [if_neg hne] at HX
  refine aI rfl (wU rfl rfl (wU rfl rfl (aW rfl (aW rfl (aA (aj (ah (aI rfl (aI rfl (iw (jv (vs := [_]) HX underlying22 sizeOf23 zeroValue23 rfl rfl rfl (by decide) (aC (by first | rfl | exact Rd.one ((HX).aT)) bn)) ?_))))))))))
  rintro l7 w7 H7
  refine iw (fP H7.f4 underlying22 (show (prog.info? 23).map (fun i => (i.zero, i.size, i.bytes)) = some (some (.slice none 0 0), 1, 24) by kernel_rfl) rfl rfl rfl ((H7).aT) (aC (by first | rfl | exact Rd.one ((H7.f2).aT)) bn) (by omega) (by omega)) ?_
  rintro l8 w8 H8
  have Y9 := H8.f2.right
  refine aW rfl (aA (aH (aj (ah (aU (dG rfl rfl (by omega)) (aI rfl (aA ?_)))))))
  have HS := (Y9.f3.f2.f3.f4).xw.f2
  refine cO ((i + 1, l8)) ?_ ?_ ?_ ?_
  ·exact (Sub.cons rfl (Sub.cons rfl (Sub.nil _)))
  ·exact (Sub.cons rfl (Sub.cons rfl (Sub.nil _)))
  ·(try dsimp only)
   first | done | exact ⟨by omega, _, by rw [Es (d := []) (by rw [FU]; omega), OH (by omega) (by omega), ← OG]; exact HS⟩
  ·(try dsimp only); omega
 ·(try simp only [aG] at h1)
  refine dK (aV ?_)
  obtain rfl : i = E.length := by omega
  have HK := HL
  rw [List.take_of_length_le (by rw [FU]; exact Nat.le_refl _)] at HK
  subst Yg
  refine aV (bD (aj (ay (ah (aI rfl (aW rfl (aA (aj (aK (aQ (.inl rfl) results55 rfl ?_))))))))))
  exact ⟨_, HK.f3.right.f3.f4.f4.f4⟩
end
end Go.Proofs.YtddekefihgejoaaGreatDoor
end
