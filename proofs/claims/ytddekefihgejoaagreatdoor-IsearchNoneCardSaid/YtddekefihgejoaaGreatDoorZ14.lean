import Derived.Test.YtddekefihgejoaaGreatDoorZ2
import Derived.Test.YtddekefihgejoaaGreatDoorZ13
import Derived.Test.YtddekefihgejoaaGreatDoorZ7
set_option linter.unusedSimpArgs false
set_option linter.unusedVariables false
/- Texts of mine, joined, their names in short: EdU Owns EdS EdS2. -/
section
namespace Go.Proofs.YtddekefihgejoaaGreatDoor
open Go.RowKit
section
variable {w0 w : World} {F : HP} {e p : Nat} {s : bG} {x : Int}
end
end Go.Proofs.YtddekefihgejoaaGreatDoor
end
section
namespace Go.Proofs.YtddekefihgejoaaGreatDoor
open Go.RowKit
def BL (e : TypeId) (k : IntKind) : List Value → List (List Int) → HP
  | [], [] => emp
  | v :: vs, l :: ls => gZ e k v l • BL e k vs ls
  | _, _ => fact False
section
variable {w0 w : World} {F : HP} {e : TypeId} {k : IntKind} {v : Value} {l : List Int}
theorem aB.Rq (H : aB w0 w F) : aB w0 w (BL e k [] [] • F) := H.yH
theorem wX : ∀ (vs : List Value) (ls : List (List Int)), (BL e k vs ls • gZ e k v l) = BL e k (vs ++ [v]) (ls ++ [l])
  | [], [] => by show (emp • gZ e k v l) = (gZ e k v l • emp); rw [qK]
  | u :: vs, m :: ls => by
    show ((gZ e k u m • BL e k vs ls) • gZ e k v l) = (gZ e k u m • BL e k (vs ++ [v]) (ls ++ [l]))
    rw [bH, wX vs ls]
  | [], m :: ls => by
    apply HP.ext; funext I h; apply propext
    constructor
    · intro hp; exact absurd ((vW _ _ _ _).1 hp).1 id
    · intro hp
      cases ls with
      | nil => exact absurd (show False by obtain ⟨_, _, _, _, _, hb⟩ := hp; exact hb.1) id
      | cons x y => exact absurd (show False by obtain ⟨_, _, _, _, _, hb⟩ := hp; exact hb.1) id
  | u :: vs, [] => by
    apply HP.ext; funext I h; apply propext
    constructor
    · intro hp; exact absurd ((vW _ _ _ _).1 hp).1 id
    · intro hp
      cases vs with
      | nil => exact absurd (show False by obtain ⟨_, _, _, _, _, hb⟩ := hp; exact hb.1) id
      | cons x y => exact absurd (show False by obtain ⟨_, _, _, _, _, hb⟩ := hp; exact hb.1) id
theorem aB.wX {vs : List Value} {ls : List (List Int)} (H : aB w0 w (BL e k vs ls • gZ e k v l • F)) : aB w0 w (BL e k (vs ++ [v]) (ls ++ [l]) • F) := H.deep.of_eq (by rw [Go.Proofs.YtddekefihgejoaaGreatDoor.wX])
end
end Go.Proofs.YtddekefihgejoaaGreatDoor
end
section
namespace Go.Proofs.YtddekefihgejoaaGreatDoor
open Go.RowKit
open _root_.Go.Proofs.Tryz
section
variable {w0 w : World} {F : HP} {e p ph pw pt pr pm : Nat} {s : bG} {k x place : Int} {hl : List kZ} {base most : Int} {tx : Int → Option ByteArray} {v : Value}
theorem Js (H : aB w0 w (dh p hl base most • F)) : fE prog 160 #[.pointer (some ⟨p, 0, none⟩), .int .i64 k] w fun v w' =>
  v = .tuple #[.agg #[.string (KJ hl k).1, .int .i64 (KJ hl k).2], .bool (decide (0 ≤ k ∧ k < hl.length))] ∧ aB w0 w' (dh p hl base most • F) := by
 have hb : hl.length ≤ 4096 := by obtain ⟨v, h, _⟩ := H.hist; exact h.1
 refine gy func160 ntmps160 ?_
 dsimp only [aY, Nat.reduceAdd]
 refine ay (ah (gq (bU (l := [_, _]) H zeroValue84 rfl) ?_))
 rintro _ w1 ⟨b1, rfl, H1⟩
 refine aV rfl (aA (aj (ay (ay (ah (aN rfl (aU (eu rfl rfl) (jy rfl (fun h1 => ?_) (fun h1 => ?_)))))))))
 ·(try simp only [aI] at h1)
  refine bF (bF (bF (bF (jw rfl rfl (aA (aj (xg (ay (ah (aU (cO (zl := [.string .empty, .int .i64 0]) (pl := [(0, 1), (1, 1)]) [_, _] underlying84 zeroValue84 rfl (fun w => by kernel_rfl) rfl (.zero (zs := [.string .empty]) rfl (.zero (zs := [.int .i64 0]) rfl .nil)) rfl) (aG (bn 0 (l' := [_, _]) (us := [_, _]) H1 sizeOf84 rfl rfl rfl (aC (by first | rfl | assumption) (aC (by first | rfl | assumption) aZ)) rfl rfl) ?_)))))))))))
  rintro _ w2 H2
  refine aV rfl (aA (aj (aJ (aK ?_))))
  refine jM (.inl rfl) (L8 results160 rfl rfl underlying84 rfl (by rw [show (prog.info? 84).map (·.size) = some 2 from by kernel_rfl]; rfl) (H2).get.2) ?_
  exact ⟨by unfold KJ; rw [if_neg (by omega), decide_eq_false (by omega)], H2.right⟩
 ·(try simp only [aI] at h1)
  refine bC (aN rfl (bC (aN rfl (bC (dw rfl func84 (jq H1.f2) ?_)))))
  rintro _ w3 ⟨rfl, H3⟩
  refine bC (aU (vY rfl rfl) (iU rfl rfl (aA (aj (aP rfl (fun h2 => ?_) (fun h2 => ?_))))))
  ·(try simp only [aI] at h2)
   refine ay (ah (aU (cO (zl := [.string .empty, .int .i64 0]) (pl := [(0, 1), (1, 1)]) [_, _] underlying84 zeroValue84 rfl (fun w => by kernel_rfl) rfl (.zero (zs := [.string .empty]) rfl (.zero (zs := [.int .i64 0]) rfl .nil)) rfl) (aG (bn 0 (l' := [_, _]) (us := [_, _]) H3.f2 sizeOf84 rfl rfl rfl (aC (by first | rfl | assumption) (aC (by first | rfl | assumption) aZ)) rfl rfl) ?_)))
   rintro _ w4 H4
   refine aV rfl (aA (aj (aJ (aK ?_))))
   refine jM (.inl rfl) (L8 results160 rfl rfl underlying84 rfl (by rw [show (prog.info? 84).map (·.size) = some 2 from by kernel_rfl]; rfl) (H4).get.2) ?_
   exact ⟨by unfold KJ; rw [if_neg (by omega), decide_eq_false (by omega)], H4.right⟩
  ·(try simp only [aI] at h2)
   refine aT (aj (ay ?_))
   obtain ⟨m, rfl⟩ := Int.eq_ofNat_of_zero_le (show 0 ≤ k by omega)
   obtain ⟨QA, uy, vG⟩ := (H3).hist
   refine ah (aN rfl (bP rfl (bg 0 underlying176 rfl sizeOf174 rfl (bg 0 underlying174 rfl sizeOf24 rfl (dO underlying24 rfl (vG).get.2 rfl (aN rfl ?_))))))
   obtain ⟨abw, abx, aby, Yo⟩ := Rd.lD ((vG.f2).aO) (by omega)
   cases Yo
   refine aU (cZ underlying24 sizeOf84 rfl rfl (by omega)) (aU (iR (ys := [_, _]) ((vG.f2).aO) (by omega) underlying84 rfl sizeOf84 rfl (jY uw (by omega) default) rfl) (aG (bn 0 (l' := [_, _]) (us := [_, _]) vG.f3 sizeOf84 rfl rfl rfl (aC (by first | rfl | assumption) (aC (by first | rfl | assumption) aZ)) rfl rfl) ?_))
   rintro _ w6 H6
   refine aV rfl (aA (aj (aJ ?_)))
   refine jM (.inl rfl) (L8 results160 rfl rfl underlying84 rfl (by rw [show (prog.info? 84).map (·.size) = some 2 from by kernel_rfl]; rfl) (H6).get.2) ?_
   have Yd := H6.f3.f3
   have WH := aB.qg uy Yd
   exact ⟨by unfold KJ; rw [if_pos (by omega), decide_eq_true (by omega)]; rfl, WH.f2.right⟩
theorem zq {x0 x1 x2 x3 x4 x5 x6 x7 x8 x9 x10 x12 zn x14 x15 x16 x17 x18 x19 x20 x21 yE x23 x24 x25 yF x27 x28 x29 x30 x31 x32 AU : Value} (H : aB w0 w (bY e (.cells (x0 :: x1 :: x2 :: x3 :: x4 :: x5 :: x6 :: x7 :: x8 :: x9 :: x10 :: .pointer (some ⟨ph, 0, none⟩) :: x12 :: zn :: x14 :: x15 :: x16 :: x17 :: x18 :: x19 :: x20 :: x21 :: yE :: x23 :: x24 :: x25 :: yF :: x27 :: x28 :: x29 :: x30 :: x31 :: x32 :: AU :: []).toArray 69 (0, 0)) • dh ph hl base most • F)) : fE prog 116 #[.pointer (some ⟨e, 0, none⟩), .int .i64 k] w fun v w' =>
  v = .string (rZ hl k) ∧ aB w0 w' (bY e (.cells (x0 :: x1 :: x2 :: x3 :: x4 :: x5 :: x6 :: x7 :: x8 :: x9 :: x10 :: .pointer (some ⟨ph, 0, none⟩) :: x12 :: zn :: x14 :: x15 :: x16 :: x17 :: x18 :: x19 :: x20 :: x21 :: yE :: x23 :: x24 :: x25 :: yF :: x27 :: x28 :: x29 :: x30 :: x31 :: x32 :: AU :: []).toArray 69 (0, 0)) • dh ph hl base most • F) := by
 refine gy func116 ntmps116 ?_
 dsimp only [aY, Nat.reduceAdd]
 refine ay (ah (aV rfl (aA (aj (ay (ah (aN rfl (bP rfl (bg 11 underlying69 rfl sizeOf65 rfl (dO underlying65 rfl (H).get.2 rfl (aN rfl (dw rfl func160 (Js H.f2) ?_))))))))))))
 rintro _ w1 ⟨rfl, H1⟩
 refine aN rfl (yA rfl rfl (yA rfl rfl (gq (bU (l := [_, _]) H1 zeroValue84 rfl) ?_)))
 rintro _ w2 ⟨b2, rfl, H2⟩
 refine aG (bn 0 (l' := [_, _]) (us := [_, _]) H2 sizeOf84 rfl rfl rfl (aC (by first | rfl | assumption) (aC (by first | rfl | assumption) aZ)) rfl rfl) ?_
 rintro _ w3 H3
 refine aV rfl (aA (aj (ay (ah (bg 0 underlying84 rfl sizeOf9 rfl (dO underlying9 rfl (H3).get.2 rfl (aV rfl (aA (aj (aJ (aQ (.inl rfl) results116 rfl ?_)))))))))))
 exact ⟨rfl, H3.right.f2⟩
theorem Oz {t : ByteArray} (h : tx k = some t) : (kX tx k).getD (.string .empty) = .string t ∧ (kX tx k).isSome = true := by unfold kX; rw [h]; exact ⟨rfl, rfl⟩
theorem AZ : (kX tx k).isSome = (tx k).isSome := by unfold kX; cases tx k <;> rfl
theorem lH {x0 x1 x3 x4 x5 x6 x7 x8 x9 x10 x12 zn x14 x15 x16 x17 x18 x19 x20 x21 yE x23 x24 x25 yF x27 x28 x29 x30 x31 x32 AU : Value} (H : aB w0 w (bY e (.cells (x0 :: x1 :: .pointer (some ⟨pw, 0, none⟩) :: x3 :: x4 :: x5 :: x6 :: x7 :: x8 :: x9 :: x10 :: .pointer (some ⟨ph, 0, none⟩) :: x12 :: zn :: x14 :: x15 :: x16 :: x17 :: x18 :: x19 :: x20 :: x21 :: yE :: x23 :: x24 :: x25 :: yF :: x27 :: x28 :: x29 :: x30 :: x31 :: x32 :: AU :: []).toArray 69 (0, 0)) • bY pw (.cells #[v, .map (some pt)] 125 (0, 0)) • dQ kW pt (kX tx) • dh ph hl base most • F)) :
  fE prog 86 #[.pointer (some ⟨e, 0, none⟩), .int .i64 k] w fun v' w' =>
  v' = .string (eY hl tx k) ∧ aB w0 w' (bY e (.cells (x0 :: x1 :: .pointer (some ⟨pw, 0, none⟩) :: x3 :: x4 :: x5 :: x6 :: x7 :: x8 :: x9 :: x10 :: .pointer (some ⟨ph, 0, none⟩) :: x12 :: zn :: x14 :: x15 :: x16 :: x17 :: x18 :: x19 :: x20 :: x21 :: yE :: x23 :: x24 :: x25 :: yF :: x27 :: x28 :: x29 :: x30 :: x31 :: x32 :: AU :: []).toArray 69 (0, 0)) • bY pw (.cells #[v, .map (some pt)] 125 (0, 0)) • dQ kW pt (kX tx) • dh ph hl base most • F) := by
 refine gy func86 ntmps86 ?_
 dsimp only [aY, Nat.reduceAdd]
 refine ay (ah (aV rfl (aA (aj (ay (ay (ah (aN rfl (bP rfl (bg 0 underlying69 rfl sizeOf64 rfl (bg 2 underlying64 rfl sizeOf61 rfl (dO underlying61 rfl (H).get.2 rfl (bP rfl (bg 1 underlying125 rfl sizeOf123 rfl (dO underlying123 rfl (H.f2).get.2 rfl (aN rfl (aU (Ja (H.f3) underlying123 underlying3 zeroValue9 rfl rfl) (aN rfl (yA rfl rfl (yA rfl rfl (aV rfl (aV rfl (aA (aj (ay (ah (aN rfl (aA (aj (aP rfl (fun h1 => ?_) (fun h1 => ?_)))))))))))))))))))))))))))))))
 ·(try simp only [aI] at h1)
  obtain ⟨tt, htt⟩ := Option.isSome_iff_exists.1 (AZ (tx := tx) ▸ h1)
  refine ay (ah (aN rfl (aV rfl (aA (aj (aJ (aK (aQ (.inl rfl) results86 rfl ?_))))))))
  exact ⟨by unfold eY; rw [htt]; show (kX tx k).getD (.string .empty) = _; rw [(Oz htt).1]; rfl, H.f4.f4.f4.f4⟩
 ·(try simp only [aI] at h1)
  have htt : tx k = none := by have := AZ (tx := tx) (k := k) ▸ h1; simpa using this
  refine aT (aj (ay (ah (aN rfl (aN rfl (dw rfl func116 (zq H.f4.f2) ?_))))))
  rintro _ w1 ⟨rfl, H1⟩
  refine aV rfl (aA (aj (aJ (aQ (.inl rfl) results86 rfl ?_))))
  exact ⟨by unfold eY; rw [htt]; rfl, H1.f2.f4.f4.f4⟩
end
end Go.Proofs.YtddekefihgejoaaGreatDoor
end
section
namespace Go.Proofs.YtddekefihgejoaaGreatDoor
open Go.RowKit
open _root_.Go.Proofs.Tryz
theorem Jt {D : List Int} {P : Int → Nat} {k : Int} (h : (DV D P k).isSome = true) : k ∈ D := by
  unfold DV at h
  split at h
  · assumption
  · cases h
theorem GI {D : List Int} {P : Int → Nat} {k : Int} (h : (DV D P k).isSome = false) : k ∉ D := by
  unfold DV at h
  split at h
  · cases h
  · assumption
def Fv (x : Int × ByteArray) : List Value := [.int .i64 x.1, .string x.2]
theorem OA (x : Int × ByteArray) : (Fv x).length = 2 := rfl
theorem Ju {hl : List kZ} {tx : Int → Option ByteArray} {place : Int} {i : Nat} (h : oO hl tx place i = true) : jB hl tx place (i + 1) = jB hl tx place i ++ [((i : Int), eY hl tx i)] := by
  unfold jB; rw [List.range_succ, List.filter_append, List.map_append]; simp [List.filter, h]
theorem Ea {hl : List kZ} {tx : Int → Option ByteArray} {place : Int} {i : Nat} (h : oO hl tx place i = false) : jB hl tx place (i + 1) = jB hl tx place i := by
  unfold jB; rw [List.range_succ, List.filter_append, List.map_append]; simp [List.filter, h]
theorem lY (hl : List kZ) (tx : Int → Option ByteArray) (place : Int) (i : Nat) : (jB hl tx place i).length ≤ i := by
  unfold jB; rw [List.length_map]
  exact Nat.le_trans (List.length_filter_le _ _) (by simp)
def sG (E : List (List Int)) (a : Nat) : List (List Int) := E.drop a ++ E.take a
def Rt (n a i : Nat) : Nat := if i = 0 then a else (a + (i - 1)) % n
theorem OB {n a i : Nat} : zN n (Rt n a i) (min (i : Int) 1) = Rt n a (i + 1) := by
  cases i with
  | zero =>
    show (((a : Int) + min ((0 : Nat) : Int) 1) % (n : Int)).toNat = (a + (0 + 1 - 1)) % n
    rw [show min ((0 : Nat) : Int) 1 = 0 by omega, Int.add_zero, show ((a : Int) % (n : Int)) = ((a % n : Nat) : Int) from rfl, Int.toNat_natCast]
    rfl
  | succ j =>
    show (((((a + (j + 1 - 1)) % n : Nat) : Int) + min ((j + 1 : Nat) : Int) 1) % (n : Int)).toNat = (a + (j + 1 + 1 - 1)) % n
    rw [show min ((j + 1 : Nat) : Int) 1 = ((1 : Nat) : Int) by omega, show ((((a + (j + 1 - 1)) % n : Nat) : Int) + ((1 : Nat) : Int)) % (n : Int) = ((((a + (j + 1 - 1)) % n + 1) % n : Nat) : Int) from rfl, Int.toNat_natCast, Nat.mod_add_mod]
    congr 1
theorem OC {E : List (List Int)} {a i : Nat} (h : i < E.length) (ha : a < E.length) : (sG E a).getD i [] = E.getD (Rt E.length a (i + 1)) [] := by
  unfold sG Rt
  rw [if_neg (by omega), Nat.add_sub_cancel, List.getD_eq_getElem?_getD, List.getD_eq_getElem?_getD]
  by_cases hi : i < E.length - a
  · rw [List.getElem?_append_left (by simpa using hi), List.getElem?_drop, Nat.mod_eq_of_lt (by omega)]
  · rw [List.getElem?_append_right (by simpa using hi), List.length_drop, List.getElem?_take, if_pos (by omega)]
    have : (a + i) % E.length = i - (E.length - a) := by
      rw [show a + i = (i - (E.length - a)) + E.length by omega, Nat.add_mod_right, Nat.mod_eq_of_lt (by omega)]
    rw [this]
theorem Eb {α : Type _} {l : List α} {k : Nat} {d : α} (h : k < l.length) : l.take (k + 1) = l.take k ++ [l.getD k d] := by rw [List.take_succ_eq_append_getElem h, List.getD_eq_getElem?_getD, List.getElem?_eq_getElem h]; rfl
theorem Fz (E : List (List Int)) (a : Nat) : (sG E a).length = E.length := by unfold sG; simp; omega
section
variable {w0 w : World} {F : HP} {e p ph pw pt pr pm pb : Nat} {s : bG} {k x place : Int} {hl : List kZ} {base most cls : Int} {tx : Int → Option ByteArray} {v pv : Value} {U : Int → List (List fB)} {put : List fB} {xs : List Value} {inn run whole : Bool} {E : List (List Int)} {a : Nat} {L : List Int} {V4 mk : Int}
theorem wJ {x0 x1 x2 x3 x4 x5 x6 x7 x8 x9 x10 x12 zn x14 x15 x16 x17 x18 x19 x20 x21 yE x23 x24 x25 yF x27 x28 x29 x30 x31 x32 AU : Value} (H : aB w0 w (bY e (.cells (x0 :: x1 :: x2 :: x3 :: x4 :: x5 :: x6 :: x7 :: x8 :: x9 :: x10 :: .pointer (some ⟨ph, 0, none⟩) :: x12 :: zn :: x14 :: x15 :: x16 :: x17 :: x18 :: x19 :: x20 :: x21 :: yE :: x23 :: x24 :: x25 :: yF :: x27 :: x28 :: x29 :: x30 :: x31 :: x32 :: AU :: []).toArray 69 (0, 0)) • F)) : fE prog 54 #[.pointer (some ⟨e, 0, none⟩)] w fun v w' => v = .bool false ∧ w = w' := by
 refine gy func54 ntmps54 ?_
 dsimp only [aY, Nat.reduceAdd]
 refine ay (ah (aV rfl (aA (aj (ay (ah (aN rfl (aU (eF underlying30 rfl rfl) (jy rfl (fun h1 => ?_) (fun h1 => ?_))))))))))
 ·(try simp only [aI] at h1)
  try (exfalso; first | contradiction | omega)
  all_goals
   refine bF (bF (bF (bF (bF (jw rfl rfl (aV rfl (aA (aj (aJ (aQ (.inl rfl) results54 rfl ?_))))))))))
   exact ⟨rfl, rfl⟩
 ·(try simp only [aI] at h1)
  try (exfalso; first | contradiction | omega)
  all_goals
   refine bC (aN rfl (bC (bP rfl (bC (bg 11 underlying69 rfl sizeOf65 rfl (bC (dO underlying65 rfl (H).get.2 rfl (bC (aU (eF underlying65 rfl rfl) (iU rfl rfl (aV rfl (aA (aj (aJ (aQ (.inl rfl) results54 rfl ?_)))))))))))))))
   exact ⟨rfl, rfl⟩
theorem lI {x0 x1 x4 x5 x6 x7 x8 x9 x11 x12 zn x14 x15 x17 x18 x19 x20 x21 yE x23 x24 x25 yF x27 x29 x30 x31 : Value} (H : aB w0 w (bY e (.cells (x0 :: x1 :: .pointer (some ⟨pw, 0, none⟩) :: .map (some pm) :: x4 :: x5 :: x6 :: x7 :: x8 :: x9 :: .bool run :: x11 :: x12 :: zn :: x14 :: x15 :: .bool inn :: x17 :: x18 :: x19 :: x20 :: x21 :: yE :: x23 :: x24 :: x25 :: yF :: x27 :: .int .i64 cls :: x29 :: x30 :: x31 :: .bool whole :: pv :: []).toArray 69 (0, 0)) • bY pw (.cells #[.int .i64 k, .map (some pt)] 125 (0, 0)) • pF pm U • Row 202 3 pv put.length xs • F)) (hU : (U k).length ≤ 16384) :
    fE prog 57 #[.pointer (some ⟨e, 0, none⟩)] w fun v' w' => v' = .int .i64 (lG (U k) inn put (cls == 3 && whole) run) ∧
      aB w0 w' (bY e (.cells (x0 :: x1 :: .pointer (some ⟨pw, 0, none⟩) :: .map (some pm) :: x4 :: x5 :: x6 :: x7 :: x8 :: x9 :: .bool run :: x11 :: x12 :: zn :: x14 :: x15 :: .bool inn :: x17 :: x18 :: x19 :: x20 :: x21 :: yE :: x23 :: x24 :: x25 :: yF :: x27 :: .int .i64 cls :: x29 :: x30 :: x31 :: .bool whole :: pv :: []).toArray 69 (0, 0)) • bY pw (.cells #[.int .i64 k, .map (some pt)] 125 (0, 0)) • pF pm U • Row 202 3 pv put.length xs • F) := by
  refine gy func57 ntmps57 ?_
  dsimp only [aY, Nat.reduceAdd]
  refine ay (ah (aV rfl (aA (aj (ay (ah (aV rfl (aA (aj ?_)))))))))
  refine rO [(0, _)] (fun (_ : Unit) => [(3, .int .i64 ((U k).length : Int))]) (fun (_ : Unit) W => aB w0 W (bY e (.cells (x0 :: x1 :: .pointer (some ⟨pw, 0, none⟩) :: .map (some pm) :: x4 :: x5 :: x6 :: x7 :: x8 :: x9 :: .bool run :: x11 :: x12 :: zn :: x14 :: x15 :: .bool inn :: x17 :: x18 :: x19 :: x20 :: x21 :: yE :: x23 :: x24 :: x25 :: yF :: x27 :: .int .i64 cls :: x29 :: x30 :: x31 :: .bool whole :: pv :: []).toArray 69 (0, 0)) • bY pw (.cells #[.int .i64 k, .map (some pt)] 125 (0, 0)) • pF pm U • Row 202 3 pv put.length xs • F)) (Sub.cons rfl (Sub.nil _)) ?_ ?_
  · rintro _ w1 HJ
    dsimp only [List.cons_append, List.nil_append]
    refine ay (ay (ah (aN rfl (bP rfl (bg 16 underlying69 rfl sizeOf4 rfl (dO underlying4 rfl (HJ).get.2 rfl (jy rfl (fun h1 => ?_) (fun h1 => ?_))))))))
    · (try simp only [aI] at h1)
      have hin := h1
      refine bC (aN rfl (bC (bP rfl (bC (bg 33 underlying69 rfl sizeOf67 rfl (bC (dO underlying67 rfl (HJ).get.2 rfl (bC (aU (fM ((HJ.f4).aO) underlying67 rfl) (bC (aU (fZ rfl rfl) (jw rfl rfl (jy rfl (fun h2 => ?_) (fun h2 => ?_))))))))))))))
      · (try simp only [aI] at h2)
        have hno : put.isEmpty = false := by rw [ku]; exact decide_eq_false (by omega)
        refine bC (aN rfl (bC (bP rfl (bC (bg 28 underlying69 rfl sizeOf3 rfl (bC (dO underlying3 rfl (HJ).get.2 rfl (bC (aU (iY rfl rfl) (bC (jy rfl (fun h3 => ?_) (fun h3 => ?_))))))))))))
        · (try simp only [aI] at h3)
          have hcl := h3
          refine bC (aN rfl (bC (bP rfl (bC (bg 32 underlying69 rfl sizeOf4 rfl (bC (dO underlying4 rfl (HJ).get.2 rfl (bC (jw rfl rfl (bC (jy rfl (fun h4 => ?_) (fun h4 => ?_))))))))))))
          · (try simp only [aI] at h4)
            have hwh := h4
            refine bC (aN rfl (bC (bP rfl (bC (bg 0 underlying69 rfl sizeOf64 rfl (bC (bg 10 underlying64 rfl sizeOf4 rfl (bC (dO underlying4 rfl (HJ).get.2 rfl (bC (jw rfl rfl (bC (aU (kJ rfl) (jw rfl rfl (aA (aj (aP rfl (fun h5 => ?_) (fun h5 => ?_))))))))))))))))))
            · (try simp only [aI] at h5)
              have hrn := h5
              refine ah (aN rfl (aU (dS rfl rfl (by omega)) (aV rfl (aA (aj (ay (ah (aN rfl (aV rfl (aA (aj (aJ (aQ (.inl rfl) results57 rfl ?_)))))))))))))
              refine ⟨?_, HJ.f4.f4.f4.f4⟩
              congr 1
              unfold lG
              first
                | exact absurd hrn (by decide)
                | (simp [hin]; done)
                | (simp [hin, hno]; done)
                | (simp [hin, hno, hcl]; done)
                | (simp [hin, hno, hcl, hwh]; done)
                | (simp [hin, hno, hcl, hwh, hrn]; done)
            · (try simp only [aI] at h5)
              have hrn := h5
              refine aT (aj (ay (ah (aN rfl (aV rfl (aA (aj (aJ (aQ (.inl rfl) results57 rfl ?_)))))))))
              refine ⟨?_, HJ.f4.f4.f4.f4⟩
              congr 1
              unfold lG
              first
                | exact absurd hrn (by decide)
                | (simp [hin]; done)
                | (simp [hin, hno]; done)
                | (simp [hin, hno, hcl]; done)
                | (simp [hin, hno, hcl, hwh]; done)
                | (simp [hin, hno, hcl, hwh, hrn]; done)
          · (try simp only [aI] at h4)
            have hwh := h4
            refine bF (bF (bF (bF (bF (bC (iU rfl rfl (bC (aU (kJ rfl) (jw rfl rfl (aA (aj (aP rfl (fun h6 => ?_) (fun h6 => ?_)))))))))))))
            · (try simp only [aI] at h6)
              have hrn := h6
              refine ah (aN rfl (aU (dS rfl rfl (by omega)) (aV rfl (aA (aj (ay (ah (aN rfl (aV rfl (aA (aj (aJ (aQ (.inl rfl) results57 rfl ?_)))))))))))))
              refine ⟨?_, HJ.f4.f4.f4.f4⟩
              congr 1
              unfold lG
              first
                | exact absurd hrn (by decide)
                | (simp [hin]; done)
                | (simp [hin, hno]; done)
                | (simp [hin, hno, hcl]; done)
                | (simp [hin, hno, hcl, hwh]; done)
                | (simp [hin, hno, hcl, hwh, hrn]; done)
            · (try simp only [aI] at h6)
              have hrn := h6
              refine aT (aj (ay (ah (aN rfl (aV rfl (aA (aj (aJ (aQ (.inl rfl) results57 rfl ?_)))))))))
              refine ⟨?_, HJ.f4.f4.f4.f4⟩
              congr 1
              unfold lG
              first
                | exact absurd hrn (by decide)
                | (simp [hin]; done)
                | (simp [hin, hno]; done)
                | (simp [hin, hno, hcl]; done)
                | (simp [hin, hno, hcl, hwh]; done)
                | (simp [hin, hno, hcl, hwh, hrn]; done)
        · (try simp only [aI] at h3)
          have hcl := h3
          refine bF (bF (bF (bF (bC (iU rfl rfl (bC (aN rfl (bF (bF (bF (bF (bF (bC (iU rfl rfl (bC (aU (kJ rfl) (jw rfl rfl (aA (aj (aP rfl (fun h7 => ?_) (fun h7 => ?_)))))))))))))))))))))
          · (try simp only [aI] at h7)
            have hrn := h7
            refine ah (aN rfl (aU (dS rfl rfl (by omega)) (aV rfl (aA (aj (ay (ah (aN rfl (aV rfl (aA (aj (aJ (aQ (.inl rfl) results57 rfl ?_)))))))))))))
            refine ⟨?_, HJ.f4.f4.f4.f4⟩
            congr 1
            unfold lG
            first
              | exact absurd hrn (by decide)
              | (simp [hin]; done)
              | (simp [hin, hno]; done)
              | (simp [hin, hno, hcl]; done)
              | (simp [hin, hno, hcl, hwh]; done)
              | (simp [hin, hno, hcl, hwh, hrn]; done)
          · (try simp only [aI] at h7)
            have hrn := h7
            refine aT (aj (ay (ah (aN rfl (aV rfl (aA (aj (aJ (aQ (.inl rfl) results57 rfl ?_)))))))))
            refine ⟨?_, HJ.f4.f4.f4.f4⟩
            congr 1
            unfold lG
            first
              | exact absurd hrn (by decide)
              | (simp [hin]; done)
              | (simp [hin, hno]; done)
              | (simp [hin, hno, hcl]; done)
              | (simp [hin, hno, hcl, hwh]; done)
              | (simp [hin, hno, hcl, hwh, hrn]; done)
      · (try simp only [aI] at h2)
        have hno : put.isEmpty = true := by rw [ku]; exact decide_eq_true (by omega)
        refine bF (bF (bF (bF (bF (bF (nU (nU (nU (nU (bF (bF (nU (nU (nU (nU (nU (bF (bF (iU rfl rfl (aA (aj (pJ (aT (aj (ay (ah (aN rfl (aV rfl (aA (aj (aJ (aQ (.inl rfl) results57 rfl ?_))))))))))))))))))))))))))))))))
        refine ⟨?_, HJ.f4.f4.f4.f4⟩
        congr 1
        unfold lG
        first
          | exact absurd hrn (by decide)
          | (simp [hin]; done)
          | (simp [hin, hno]; done)
          | (simp [hin, hno, hcl]; done)
          | (simp [hin, hno, hcl, hwh]; done)
          | (simp [hin, hno, hcl, hwh, hrn]; done)
    · (try simp only [aI] at h1)
      have hin := h1
      refine bF (bF (bF (bF (bF (bF (iU rfl rfl (aN rfl (bF (bF (bF (bF (bF (bF (nU (nU (nU (nU (bF (bF (nU (nU (nU (nU (nU (bF (bF (iU rfl rfl (aA (aj (pJ (aT (aj (ay (ah (aN rfl (aV rfl (aA (aj (aJ ?_)))))))))))))))))))))))))))))))))))))))
      refine aQ (.inl rfl) results57 rfl ?_
      refine ⟨?_, HJ.f4.f4.f4.f4⟩
      congr 1
      unfold lG
      first
        | exact absurd hrn (by decide)
        | (simp [hin]; done)
        | (simp [hin, hno]; done)
        | (simp [hin, hno, hcl]; done)
        | (simp [hin, hno, hcl, hwh]; done)
        | (simp [hin, hno, hcl, hwh, hrn]; done)
  · skip
    refine ay ?_
    obtain ⟨D, P, hD1, hD2, HU⟩ := (H.f3).QJ
    have OD := HU.drew
    have kG := aB.kp (OD.f5.f5.f5.f5.f5)
    refine vV [4, 9, 12, 13] kG rfl (gQ 0 rfl kG rfl (iQ 1 rfl kG rfl (dR 2 rfl kG 0 underlying69 rfl sizeOf64 rfl (dR 3 rfl kG 3 underlying64 rfl sizeOf62 rfl (gY 4 rfl kG (fun W hW => iH underlying62 rfl ((Kp.h hW).f3).get.2 rfl) (gQ 5 rfl kG rfl (iQ 6 rfl kG rfl (dR 7 rfl kG 0 underlying69 rfl sizeOf64 rfl (dR 8 rfl kG 2 underlying64 rfl sizeOf61 rfl (gY 9 rfl kG (fun W hW => iH underlying61 rfl ((Kp.h hW).f3).get.2 rfl) (iQ 10 rfl kG rfl (dR 11 rfl kG 0 underlying125 rfl sizeOf3 rfl (gY 12 rfl kG (fun W hW => iH underlying3 rfl ((Kp.h hW).f4).get.2 rfl) (gY 13 rfl kG (fun W hW => WU (I9 ((Kp.h hW)) underlying62 underlying3 zeroValue187 rfl rfl) (MR D P k)) (iJ 14 rfl kG (fun _ => eP rfl) (nT (aj (ay (ah (aN rfl (aU (uS underlying187 rfl rfl) (aA (aj (aP rfl (fun h8 => ?_) (fun h8 => ?_)))))))))))))))))))))))))
    · (try simp only [aI] at h8)
      have hmem := Jt h8
      rw [Jj hmem]
      have HF := OD.f2
      rw [lX hmem] at HF
      have HF2 := HF.flat
      refine ah (aN rfl (dw rfl func117 (Gi HF2) ?_))
      rintro _ w2 ⟨rfl, H2⟩
      have Zt := H2.f2.f2
      have Zu := aB.of_eq Zt (by rw [← bH, ← lX hmem])
      have XB := Zu.f2
      have XC := aB.wW hD1 hD2 XB
      refine aV rfl (aA ?_)
      refine bZ (()) ?_ ?_ ?_
      · exact (Sub.iG rfl (by first | (rw [hD2 _ hnm]; rfl) | (simp; done)) (Sub.nil _))
      · exact (Sub.cons rfl (Sub.nil _))
      · (try dsimp only)
        first | done | exact XC.f4.f2.f4.f4
    · (try simp only [aI] at h8)
      have hnm := GI h8
      have Qu := OD.f2.f2
      have Oi := aB.wW hD1 hD2 Qu
      refine aT ?_
      refine bZ (()) ?_ ?_ ?_
      · exact (Sub.iG rfl (by first | (rw [hD2 _ hnm]; rfl) | (simp; done)) (Sub.nil _))
      · exact (Sub.cons rfl (Sub.nil _))
      · (try dsimp only)
        first | done | exact Oi.f4.f2.f4.f4
theorem vK {x0 x2 x3 x4 x5 x6 x7 x8 x9 x10 x12 zn x14 x15 x16 x17 x18 x19 x20 x21 yE x23 x24 x25 yF x27 x28 x29 x30 x31 x32 AU : Value} (H : aB w0 w (bY e (.cells (x0 :: .pointer (some ⟨pr, 0, none⟩) :: x2 :: x3 :: x4 :: x5 :: x6 :: x7 :: x8 :: x9 :: x10 :: .pointer (some ⟨ph, 0, none⟩) :: x12 :: zn :: x14 :: x15 :: x16 :: x17 :: x18 :: x19 :: x20 :: x21 :: yE :: x23 :: x24 :: x25 :: yF :: x27 :: x28 :: x29 :: x30 :: x31 :: x32 :: AU :: []).toArray 69 (0, 0)) • dU pr E a • F)) : fE prog 55 #[.pointer (some ⟨e, 0, none⟩)] w fun v' w' =>
  ∃ us, aB w0 w' (Row 23 1 v' E.length us • BL 21 .i32 us (sG E a) • bY e (.cells (x0 :: .pointer (some ⟨pr, 0, none⟩) :: x2 :: x3 :: x4 :: x5 :: x6 :: x7 :: x8 :: x9 :: x10 :: .pointer (some ⟨ph, 0, none⟩) :: x12 :: zn :: x14 :: x15 :: x16 :: x17 :: x18 :: x19 :: x20 :: x21 :: yE :: x23 :: x24 :: x25 :: yF :: x27 :: x28 :: x29 :: x30 :: x31 :: x32 :: AU :: []).toArray 69 (0, 0)) • dU pr E a • F) := by
 obtain ⟨hE1, hE2, hE3⟩ := Ky H.swap
 refine gy func55 ntmps55 ?_
 dsimp only [aY, Nat.reduceAdd]
 refine ay (ah (aV rfl (aA (aj (ay (ay (ah (aN rfl (dw rfl func54 (wJ H) ?_)))))))))
 rintro _ _ ⟨rfl, rfl⟩
 refine aA (aj (pJ (aT (aj (ay (ah (aV rfl (aA (aj (ay (ah (aN rfl (bP rfl (bg 0 underlying69 rfl sizeOf64 rfl (bg 1 underlying64 rfl sizeOf60 rfl (dO underlying60 rfl (H).get.2 rfl (dw rfl func113 (wE H.f2) ?_)))))))))))))))))
 rintro _ w2 ⟨pc2, rfl, H2⟩
 refine aV rfl (aA (aj (ay (ay (ah (aN rfl (dw rfl func114 (Gf H2) ?_)))))))
 rintro _ _ ⟨rfl, rfl⟩
 refine aN rfl (aA (aj (bf ?_)))
 obtain ⟨R4, Ye, HR4⟩ := aB.WO (H2)
 refine fH [(4, _), (17, _)] (fun (⟨i, u⟩ : Nat × Value) => [(3, u), (18, .int .i64 (i : Int))]) (fun (⟨i, u⟩ : Nat × Value) W => i ≤ E.length ∧ ∃ us, aB w0 W (Row 23 1 u i us • BL 21 .i32 us ((sG E a).take i) • dU pc2 E (Rt E.length a i) • R4)) (fun (⟨i, u⟩ : Nat × Value) => E.length - i) ((0, .slice none 0 0)) (Sub.cons rfl (Sub.cons rfl (Sub.nil _))) (Sub.cons rfl (Sub.cons rfl (Sub.nil _))) ⟨by omega, [], HR4.Rq.ig none⟩ ?_
 rintro ⟨i, u⟩ w5 ⟨hi, us, HL⟩
 dsimp only [List.cons_append, List.nil_append]
 refine ay (ah (aU (eu rfl rfl) (aA (aj (ay (aP rfl (fun h1 => ?_) (fun h1 => ?_)))))))
 ·(try simp only [aI] at h1)
  refine aT (aj (ay (bf (ay (ah (aN rfl (aV rfl (aA (aj (ay (ah (aN rfl (aN rfl (aU (Pj rfl rfl) (dw rfl func115 (BD HL.f3) ?_)))))))))))))))
  rintro _ w6 ⟨u6, rfl, H6⟩
  have hne : ¬ E.length = 0 := by omega
  have HX := H6
  simp only [if_neg hne] at HX
  refine aN rfl (yA rfl rfl (yA rfl rfl (aV rfl (aV rfl (aA (aj (ah (aN rfl (aN rfl (gq (iK (vs := [_]) HX underlying22 sizeOf23 zeroValue23 rfl rfl rfl (by decide) (aC (by first | rfl | exact Rd.one ((HX).aO)) aZ)) ?_))))))))))
  rintro l7 w7 H7
  refine gq (fF H7.f4 underlying22 (show (prog.info? 23).map (fun i => (i.zero, i.size, i.bytes)) = some (some (.slice none 0 0), 1, 24) by kernel_rfl) rfl rfl rfl ((H7).aO) (aC (by first | rfl | exact Rd.one ((H7.f2).aO)) aZ) (by omega) (by omega)) ?_
  rintro l8 w8 H8
  have WI := H8.f2.right
  refine aV rfl (aA (aH (aj (ah (aU (dS rfl rfl (by omega)) (aN rfl (aA ?_)))))))
  have HS := (WI.f3.f2.f3.f4).wX.f2
  refine dA ((i + 1, l8)) ?_ ?_ ?_ ?_
  ·exact (Sub.cons rfl (Sub.cons rfl (Sub.nil _)))
  ·exact (Sub.cons rfl (Sub.cons rfl (Sub.nil _)))
  ·(try dsimp only)
   first | done | exact ⟨by omega, _, by rw [Eb (d := []) (by rw [Fz]; omega), OC (by omega) (by omega), ← OB]; exact HS⟩
  ·(try dsimp only); omega
 ·(try simp only [aI] at h1)
  refine dL (aW ?_)
  obtain rfl : i = E.length := by omega
  have HK := HL
  rw [List.take_of_length_le (by rw [Fz]; exact Nat.le_refl _)] at HK
  subst Ye
  refine aW (bD (aj (ay (ah (aN rfl (aV rfl (aA (aj (aJ (aQ (.inl rfl) results55 rfl ?_))))))))))
  exact ⟨_, HK.f3.right.f3.f4.f4.f4⟩
end
end Go.Proofs.YtddekefihgejoaaGreatDoor
end
