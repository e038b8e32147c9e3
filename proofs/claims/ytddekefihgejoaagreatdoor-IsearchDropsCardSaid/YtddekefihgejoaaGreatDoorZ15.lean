import Derived.Test.YtddekefihgejoaaGreatDoorZ2
import Derived.Test.YtddekefihgejoaaGreatDoorZ14
import Derived.Test.YtddekefihgejoaaGreatDoorZ5
set_option linter.unusedSimpArgs false
set_option linter.unusedVariables false
/- Texts of mine, joined, their names in short: EdU Owns EdS EdS2. -/
section
namespace Go.Proofs.YtddekefihgejoaaGreatDoor
open Go.RowKit
section
variable {w0 w : World} {F : HP} {e p : Nat} {s : bH} {x : Int}
end
end Go.Proofs.YtddekefihgejoaaGreatDoor
end
section
namespace Go.Proofs.YtddekefihgejoaaGreatDoor
open Go.RowKit
def xG (e : TypeId) (k : IntKind) : List Value → List (List Int) → HP
  | [], [] => emp
  | v :: vs, l :: ls => gW e k v l • xG e k vs ls
  | _, _ => fact False
section
variable {w0 w : World} {F : HP} {e : TypeId} {k : IntKind} {v : Value} {l : List Int}
theorem aA.SX (H : aA w0 w F) : aA w0 w (xG e k [] [] • F) := H.zo
theorem aA.Kt : ∀ {vs : List Value} {ls : List (List Int)} {F : HP}, aA w0 w (xG e k vs ls • F) → vs.length = ls.length
  | [], [], _, _ => rfl
  | v :: vs, l :: ls, _, H => by simpa using aA.Kt (aA.right (aA.flat H))
  | [], _ :: _, _, H => absurd H.fact.1 id
  | _ :: _, [], _, H => absurd H.fact.1 id
theorem yc : ∀ (vs : List Value) (ls : List (List Int)), (xG e k vs ls • gW e k v l) = xG e k (vs ++ [v]) (ls ++ [l])
  | [], [] => by show (emp • gW e k v l) = (gW e k v l • emp); rw [rQ]
  | u :: vs, m :: ls => by
    show ((gW e k u m • xG e k vs ls) • gW e k v l) = (gW e k u m • xG e k (vs ++ [v]) (ls ++ [l]))
    rw [bF, yc vs ls]
  | [], m :: ls => by
    apply HP.ext; funext I h; apply propext
    constructor
    · intro hp; exact absurd ((uz _ _ _ _).1 hp).1 id
    · intro hp
      cases ls with
      | nil => exact absurd (show False by obtain ⟨_, _, _, _, _, hb⟩ := hp; exact hb.1) id
      | cons x y => exact absurd (show False by obtain ⟨_, _, _, _, _, hb⟩ := hp; exact hb.1) id
  | u :: vs, [] => by
    apply HP.ext; funext I h; apply propext
    constructor
    · intro hp; exact absurd ((uz _ _ _ _).1 hp).1 id
    · intro hp
      cases vs with
      | nil => exact absurd (show False by obtain ⟨_, _, _, _, _, hb⟩ := hp; exact hb.1) id
      | cons x y => exact absurd (show False by obtain ⟨_, _, _, _, _, hb⟩ := hp; exact hb.1) id
theorem aA.yc {vs : List Value} {ls : List (List Int)} (H : aA w0 w (xG e k vs ls • gW e k v l • F)) : aA w0 w (xG e k (vs ++ [v]) (ls ++ [l]) • F) := H.deep.of_eq (by rw [Go.Proofs.YtddekefihgejoaaGreatDoor.yc])
theorem aA.Gu : ∀ {vs : List Value} {ls : List (List Int)} {F : HP} {j : Nat}, aA w0 w (xG e k vs ls • F) → j < ls.length →
    ∃ R : HP, aA w0 w (gW e k (vs.getD j undef) (ls.getD j []) • R • F) ∧ ∀ l' w' F', aA w0 w' (gW e k (vs.getD j undef) l' • R • F') → aA w0 w' (xG e k vs (ls.set j l') • F')
  | [], [], _, j, _, hj => by simp at hj
  | v :: vs, l :: ls, F, 0, H, _ => ⟨xG e k vs ls, H.flat, fun l' w' F' H' => H'.deep⟩
  | v :: vs, l :: ls, F, j + 1, H, hj => by
    obtain ⟨R, h1, h2⟩ := aA.Gu (j := j) H.flat.swap (by simpa using hj)
    refine ⟨R • gW e k v l, by simpa [bF] using h1, fun l' w' F' H' => ?_⟩
    have := h2 l' w' (gW e k v l • F') (H'.of_eq (by simp only [List.getD_cons_succ]; ac_rfl))
    exact this.swap.deep
  | [], _ :: _, _, _, H, _ => absurd H.fact.1 id
  | _ :: _, [], _, _, H, _ => absurd H.fact.1 id
theorem aA.Oh {vs : List Value} {ls : List (List Int)} {j : Nat} (H : aA w0 w (xG e k vs ls • F)) (hj : j < ls.length) : iI w k (vs.getD j undef) (ls.getD j []) := by
  obtain ⟨R, h, _⟩ := H.Gu hj
  exact h.aJ
end
end Go.Proofs.YtddekefihgejoaaGreatDoor
end
section
namespace Go.Proofs.YtddekefihgejoaaGreatDoor
open Go.RowKit
open _root_.Go.Proofs.Tryz
section
variable {w0 w : World} {F : HP} {e p ph pw pt pr pm : Nat} {s : bH} {k x place : Int} {hl : List lg} {base most : Int} {tx : Int → Option ByteArray} {v : Value}
theorem Ku (H : aA w0 w (dn p hl base most • F)) : fQ prog 160 #[.pointer (some ⟨p, 0, none⟩), .int .i64 k] w fun v w' =>
  v = .tuple #[.agg #[.string (Mc hl k).1, .int .i64 (Mc hl k).2], .bool (decide (0 ≤ k ∧ k < hl.length))] ∧ aA w0 w' (dn p hl base most • F) := by
 have hb : hl.length ≤ 4096 := by obtain ⟨v, h, _⟩ := H.hist; exact h.1
 refine iw func160 ntmps160 ?_
 dsimp only [aZ, Nat.reduceAdd]
 refine ay (ah (gB (bW (l := [_, _]) H zeroValue84 rfl) ?_))
 rintro _ w1 ⟨b1, rfl, H1⟩
 refine aW rfl (aB (aj (ay (ay (ah (aP rfl (aU (dV rfl rfl) (jL rfl (fun h1 => ?_) (fun h1 => ?_)))))))))
 ·(try simp only [aG] at h1)
  refine bK (bK (bK (bK (jP rfl rfl (aB (aj (Dj (ay (ah (aU (dJ (zl := [.string .empty, .int .i64 0]) (pl := [(0, 1), (1, 1)]) [_, _] underlying84 zeroValue84 rfl (fun w => by kernel_rfl) rfl (.zero (zs := [.string .empty]) rfl (.zero (zs := [.int .i64 0]) rfl .nil)) rfl) (aI (bC 0 (l' := [_, _]) (us := [_, _]) H1 sizeOf84 rfl rfl rfl (aC (by first | rfl | assumption) (aC (by first | rfl | assumption) bg)) rfl rfl) ?_)))))))))))
  rintro _ w2 H2
  refine aW rfl (aB (aj (aN (aK ?_))))
  refine kM (.inl rfl) (Ns results160 rfl rfl underlying84 rfl (by rw [show (prog.info? 84).map (·.size) = some 2 from by kernel_rfl]; rfl) (H2).get.2) ?_
  exact ⟨by unfold Mc; rw [if_neg (by omega), decide_eq_false (by omega)], H2.right⟩
 ·(try simp only [aG] at h1)
  refine bn (aP rfl (bn (aP rfl (bn (dD rfl func84 (jF H1.f2) ?_)))))
  rintro _ w3 ⟨rfl, H3⟩
  refine bn (aU (wW rfl rfl) (jd rfl rfl (aB (aj (aO rfl (fun h2 => ?_) (fun h2 => ?_))))))
  ·(try simp only [aG] at h2)
   refine ay (ah (aU (dJ (zl := [.string .empty, .int .i64 0]) (pl := [(0, 1), (1, 1)]) [_, _] underlying84 zeroValue84 rfl (fun w => by kernel_rfl) rfl (.zero (zs := [.string .empty]) rfl (.zero (zs := [.int .i64 0]) rfl .nil)) rfl) (aI (bC 0 (l' := [_, _]) (us := [_, _]) H3.f2 sizeOf84 rfl rfl rfl (aC (by first | rfl | assumption) (aC (by first | rfl | assumption) bg)) rfl rfl) ?_)))
   rintro _ w4 H4
   refine aW rfl (aB (aj (aN (aK ?_))))
   refine kM (.inl rfl) (Ns results160 rfl rfl underlying84 rfl (by rw [show (prog.info? 84).map (·.size) = some 2 from by kernel_rfl]; rfl) (H4).get.2) ?_
   exact ⟨by unfold Mc; rw [if_neg (by omega), decide_eq_false (by omega)], H4.right⟩
  ·(try simp only [aG] at h2)
   refine aQ (aj (ay ?_))
   obtain ⟨m, rfl⟩ := Int.eq_ofNat_of_zero_le (show 0 ≤ k by omega)
   obtain ⟨QL, uT, wo⟩ := (H3).hist
   refine ah (aP rfl (bT rfl (bf 0 underlying176 rfl sizeOf174 rfl (bf 0 underlying174 rfl sizeOf24 rfl (dA underlying24 rfl (wo).get.2 rfl (aP rfl ?_))))))
   obtain ⟨acd, ace, acf, Za⟩ := Rd.kN ((wo.f2).aJ) (by omega)
   cases Za
   refine aU (bV underlying24 sizeOf84 rfl rfl (by omega)) (aU (iG (ys := [_, _]) ((wo.f2).aJ) (by omega) underlying84 rfl sizeOf84 rfl (jw uS (by omega) default) rfl) (aI (bC 0 (l' := [_, _]) (us := [_, _]) wo.f3 sizeOf84 rfl rfl rfl (aC (by first | rfl | assumption) (aC (by first | rfl | assumption) bg)) rfl rfl) ?_))
   rintro _ w6 H6
   refine aW rfl (aB (aj (aN ?_)))
   refine kM (.inl rfl) (Ns results160 rfl rfl underlying84 rfl (by rw [show (prog.info? 84).map (·.size) = some 2 from by kernel_rfl]; rfl) (H6).get.2) ?_
   have W9 := H6.f3.f3
   have VN := aA.qW uT W9
   exact ⟨by unfold Mc; rw [if_pos (by omega), decide_eq_true (by omega)]; rfl, VN.f2.right⟩
theorem Ad {x0 x1 x2 x3 x4 x5 x6 x7 x8 x9 x10 x12 Aa x14 x15 x16 x17 x18 x19 x20 x21 zi x23 x24 x25 zk x27 x28 x29 x30 x31 x32 BQ : Value} (H : aA w0 w (cO e (.cells (x0 :: x1 :: x2 :: x3 :: x4 :: x5 :: x6 :: x7 :: x8 :: x9 :: x10 :: .pointer (some ⟨ph, 0, none⟩) :: x12 :: Aa :: x14 :: x15 :: x16 :: x17 :: x18 :: x19 :: x20 :: x21 :: zi :: x23 :: x24 :: x25 :: zk :: x27 :: x28 :: x29 :: x30 :: x31 :: x32 :: BQ :: []).toArray 69 (0, 0)) • dn ph hl base most • F)) : fQ prog 116 #[.pointer (some ⟨e, 0, none⟩), .int .i64 k] w fun v w' =>
  v = .string (tK hl k) ∧ aA w0 w' (cO e (.cells (x0 :: x1 :: x2 :: x3 :: x4 :: x5 :: x6 :: x7 :: x8 :: x9 :: x10 :: .pointer (some ⟨ph, 0, none⟩) :: x12 :: Aa :: x14 :: x15 :: x16 :: x17 :: x18 :: x19 :: x20 :: x21 :: zi :: x23 :: x24 :: x25 :: zk :: x27 :: x28 :: x29 :: x30 :: x31 :: x32 :: BQ :: []).toArray 69 (0, 0)) • dn ph hl base most • F) := by
 refine iw func116 ntmps116 ?_
 dsimp only [aZ, Nat.reduceAdd]
 refine ay (ah (aW rfl (aB (aj (ay (ah (aP rfl (bT rfl (bf 11 underlying69 rfl sizeOf65 rfl (dA underlying65 rfl (H).get.2 rfl (aP rfl (dD rfl func160 (Ku H.f2) ?_))))))))))))
 rintro _ w1 ⟨rfl, H1⟩
 refine aP rfl (wQ rfl rfl (wQ rfl rfl (gB (bW (l := [_, _]) H1 zeroValue84 rfl) ?_)))
 rintro _ w2 ⟨b2, rfl, H2⟩
 refine aI (bC 0 (l' := [_, _]) (us := [_, _]) H2 sizeOf84 rfl rfl rfl (aC (by first | rfl | assumption) (aC (by first | rfl | assumption) bg)) rfl rfl) ?_
 rintro _ w3 H3
 refine aW rfl (aB (aj (ay (ah (bf 0 underlying84 rfl sizeOf9 rfl (dA underlying9 rfl (H3).get.2 rfl (aW rfl (aB (aj (aN (aT (.inl rfl) results116 rfl ?_)))))))))))
 exact ⟨rfl, H3.right.f2⟩
theorem PG {t : ByteArray} (h : tx k = some t) : (lJ tx k).getD (.string .empty) = .string t ∧ (lJ tx k).isSome = true := by unfold lJ; rw [h]; exact ⟨rfl, rfl⟩
theorem Cb : (lJ tx k).isSome = (tx k).isSome := by unfold lJ; cases tx k <;> rfl
theorem lX {x0 x1 x3 x4 x5 x6 x7 x8 x9 x10 x12 Aa x14 x15 x16 x17 x18 x19 x20 x21 zi x23 x24 x25 zk x27 x28 x29 x30 x31 x32 BQ : Value} (H : aA w0 w (cO e (.cells (x0 :: x1 :: .pointer (some ⟨pw, 0, none⟩) :: x3 :: x4 :: x5 :: x6 :: x7 :: x8 :: x9 :: x10 :: .pointer (some ⟨ph, 0, none⟩) :: x12 :: Aa :: x14 :: x15 :: x16 :: x17 :: x18 :: x19 :: x20 :: x21 :: zi :: x23 :: x24 :: x25 :: zk :: x27 :: x28 :: x29 :: x30 :: x31 :: x32 :: BQ :: []).toArray 69 (0, 0)) • cO pw (.cells #[v, .map (some pt)] 125 (0, 0)) • dY lI pt (lJ tx) • dn ph hl base most • F)) :
  fQ prog 86 #[.pointer (some ⟨e, 0, none⟩), .int .i64 k] w fun v' w' =>
  v' = .string (fE hl tx k) ∧ aA w0 w' (cO e (.cells (x0 :: x1 :: .pointer (some ⟨pw, 0, none⟩) :: x3 :: x4 :: x5 :: x6 :: x7 :: x8 :: x9 :: x10 :: .pointer (some ⟨ph, 0, none⟩) :: x12 :: Aa :: x14 :: x15 :: x16 :: x17 :: x18 :: x19 :: x20 :: x21 :: zi :: x23 :: x24 :: x25 :: zk :: x27 :: x28 :: x29 :: x30 :: x31 :: x32 :: BQ :: []).toArray 69 (0, 0)) • cO pw (.cells #[v, .map (some pt)] 125 (0, 0)) • dY lI pt (lJ tx) • dn ph hl base most • F) := by
 refine iw func86 ntmps86 ?_
 dsimp only [aZ, Nat.reduceAdd]
 refine ay (ah (aW rfl (aB (aj (ay (ay (ah (aP rfl (bT rfl (bf 0 underlying69 rfl sizeOf64 rfl (bf 2 underlying64 rfl sizeOf61 rfl (dA underlying61 rfl (H).get.2 rfl (bT rfl (bf 1 underlying125 rfl sizeOf123 rfl (dA underlying123 rfl (H.f2).get.2 rfl (aP rfl (aU (JR (H.f3) underlying123 underlying3 zeroValue9 rfl rfl) (aP rfl (wQ rfl rfl (wQ rfl rfl (aW rfl (aW rfl (aB (aj (ay (ah (aP rfl (aB (aj (aO rfl (fun h1 => ?_) (fun h1 => ?_)))))))))))))))))))))))))))))))
 ·(try simp only [aG] at h1)
  obtain ⟨tt, htt⟩ := Option.isSome_iff_exists.1 (Cb (tx := tx) ▸ h1)
  refine ay (ah (aP rfl (aW rfl (aB (aj (aN (aK (aT (.inl rfl) results86 rfl ?_))))))))
  exact ⟨by unfold fE; rw [htt]; show (lJ tx k).getD (.string .empty) = _; rw [(PG htt).1]; rfl, H.f4.f4.f4.f4⟩
 ·(try simp only [aG] at h1)
  have htt : tx k = none := by have := Cb (tx := tx) (k := k) ▸ h1; simpa using this
  refine aQ (aj (ay (ah (aP rfl (aP rfl (dD rfl func116 (Ad H.f4.f2) ?_))))))
  rintro _ w1 ⟨rfl, H1⟩
  refine aW rfl (aB (aj (aN (aT (.inl rfl) results86 rfl ?_))))
  exact ⟨by unfold fE; rw [htt]; rfl, H1.f2.f4.f4.f4⟩
end
end Go.Proofs.YtddekefihgejoaaGreatDoor
end
section
namespace Go.Proofs.YtddekefihgejoaaGreatDoor
open Go.RowKit
open _root_.Go.Proofs.Tryz
theorem Kv {D : List Int} {P : Int → Nat} {k : Int} (h : (ED D P k).isSome = true) : k ∈ D := by
  unfold ED at h
  split at h
  · assumption
  · cases h
theorem Ip {D : List Int} {P : Int → Nat} {k : Int} (h : (ED D P k).isSome = false) : k ∉ D := by
  unfold ED at h
  split at h
  · cases h
  · assumption
def lC (x : Int × ByteArray) : List Value := [.int .i64 x.1, .string x.2]
theorem PI (x : Int × ByteArray) : (lC x).length = 2 := rfl
theorem Kw {hl : List lg} {tx : Int → Option ByteArray} {place : Int} {i : Nat} (h : pO hl tx place i = true) : jM hl tx place (i + 1) = jM hl tx place i ++ [((i : Int), fE hl tx i)] := by
  unfold jM; rw [List.range_succ, List.filter_append, List.map_append]; simp [List.filter, h]
theorem EP {hl : List lg} {tx : Int → Option ByteArray} {place : Int} {i : Nat} (h : pO hl tx place i = false) : jM hl tx place (i + 1) = jM hl tx place i := by
  unfold jM; rw [List.range_succ, List.filter_append, List.map_append]; simp [List.filter, h]
theorem mW (hl : List lg) (tx : Int → Option ByteArray) (place : Int) (i : Nat) : (jM hl tx place i).length ≤ i := by
  unfold jM; rw [List.length_map]
  exact Nat.le_trans (List.length_filter_le _ _) (by simp)
def pR (E : List (List Int)) (a : Nat) : List (List Int) := E.drop a ++ E.take a
def SY (n a i : Nat) : Nat := if i = 0 then a else (a + (i - 1)) % n
theorem PK {n a i : Nat} : AY n (SY n a i) (min (i : Int) 1) = SY n a (i + 1) := by
  cases i with
  | zero =>
    show (((a : Int) + min ((0 : Nat) : Int) 1) % (n : Int)).toNat = (a + (0 + 1 - 1)) % n
    rw [show min ((0 : Nat) : Int) 1 = 0 by omega, Int.add_zero, show ((a : Int) % (n : Int)) = ((a % n : Nat) : Int) from rfl, Int.toNat_natCast]
    rfl
  | succ j =>
    show (((((a + (j + 1 - 1)) % n : Nat) : Int) + min ((j + 1 : Nat) : Int) 1) % (n : Int)).toNat = (a + (j + 1 + 1 - 1)) % n
    rw [show min ((j + 1 : Nat) : Int) 1 = ((1 : Nat) : Int) by omega, show ((((a + (j + 1 - 1)) % n : Nat) : Int) + ((1 : Nat) : Int)) % (n : Int) = ((((a + (j + 1 - 1)) % n + 1) % n : Nat) : Int) from rfl, Int.toNat_natCast, Nat.mod_add_mod]
    congr 1
theorem PL {E : List (List Int)} {a i : Nat} (h : i < E.length) (ha : a < E.length) : (pR E a).getD i [] = E.getD (SY E.length a (i + 1)) [] := by
  unfold pR SY
  rw [if_neg (by omega), Nat.add_sub_cancel, List.getD_eq_getElem?_getD, List.getD_eq_getElem?_getD]
  by_cases hi : i < E.length - a
  · rw [List.getElem?_append_left (by simpa using hi), List.getElem?_drop, Nat.mod_eq_of_lt (by omega)]
  · rw [List.getElem?_append_right (by simpa using hi), List.length_drop, List.getElem?_take, if_pos (by omega)]
    have : (a + i) % E.length = i - (E.length - a) := by
      rw [show a + i = (i - (E.length - a)) + E.length by omega, Nat.add_mod_right, Nat.mod_eq_of_lt (by omega)]
    rw [this]
theorem ER {α : Type _} {l : List α} {k : Nat} {d : α} (h : k < l.length) : l.take (k + 1) = l.take k ++ [l.getD k d] := by rw [List.take_succ_eq_append_getElem h, List.getD_eq_getElem?_getD, List.getElem?_eq_getElem h]; rfl
theorem Gv (E : List (List Int)) (a : Nat) : (pR E a).length = E.length := by unfold pR; simp; omega
section
variable {w0 w : World} {F : HP} {e p ph pw pt pr pm pb : Nat} {s : bH} {k x place : Int} {hl : List lg} {base most cls : Int} {tx : Int → Option ByteArray} {v pv : Value} {U : Int → List (List fG)} {put : List fG} {xs : List Value} {inn run whole : Bool} {E : List (List Int)} {a : Nat} {L : List Int} {Xg mk : Int}
theorem xH {x0 x1 x2 x3 x4 x5 x6 x7 x8 x9 x10 x12 Aa x14 x15 x16 x17 x18 x19 x20 x21 zi x23 x24 x25 zk x27 x28 x29 x30 x31 x32 BQ : Value} (H : aA w0 w (cO e (.cells (x0 :: x1 :: x2 :: x3 :: x4 :: x5 :: x6 :: x7 :: x8 :: x9 :: x10 :: .pointer (some ⟨ph, 0, none⟩) :: x12 :: Aa :: x14 :: x15 :: x16 :: x17 :: x18 :: x19 :: x20 :: x21 :: zi :: x23 :: x24 :: x25 :: zk :: x27 :: x28 :: x29 :: x30 :: x31 :: x32 :: BQ :: []).toArray 69 (0, 0)) • F)) : fQ prog 54 #[.pointer (some ⟨e, 0, none⟩)] w fun v w' => v = .bool false ∧ w = w' := by
 refine iw func54 ntmps54 ?_
 dsimp only [aZ, Nat.reduceAdd]
 refine ay (ah (aW rfl (aB (aj (ay (ah (aP rfl (aU (fO underlying30 rfl rfl) (jL rfl (fun h1 => ?_) (fun h1 => ?_))))))))))
 ·(try simp only [aG] at h1)
  try (exfalso; first | contradiction | omega)
  all_goals
   refine bK (bK (bK (bK (bK (jP rfl rfl (aW rfl (aB (aj (aN (aT (.inl rfl) results54 rfl ?_))))))))))
   exact ⟨rfl, rfl⟩
 ·(try simp only [aG] at h1)
  try (exfalso; first | contradiction | omega)
  all_goals
   refine bn (aP rfl (bn (bT rfl (bn (bf 11 underlying69 rfl sizeOf65 rfl (bn (dA underlying65 rfl (H).get.2 rfl (bn (aU (fO underlying65 rfl rfl) (jd rfl rfl (aW rfl (aB (aj (aN (aT (.inl rfl) results54 rfl ?_)))))))))))))))
   exact ⟨rfl, rfl⟩
theorem lY {x0 x1 x4 x5 x6 x7 x8 x9 x11 x12 Aa x14 x15 x17 x18 x19 x20 x21 zi x23 x24 x25 zk x27 x29 x30 x31 : Value} (H : aA w0 w (cO e (.cells (x0 :: x1 :: .pointer (some ⟨pw, 0, none⟩) :: .map (some pm) :: x4 :: x5 :: x6 :: x7 :: x8 :: x9 :: .bool run :: x11 :: x12 :: Aa :: x14 :: x15 :: .bool inn :: x17 :: x18 :: x19 :: x20 :: x21 :: zi :: x23 :: x24 :: x25 :: zk :: x27 :: .int .i64 cls :: x29 :: x30 :: x31 :: .bool whole :: pv :: []).toArray 69 (0, 0)) • cO pw (.cells #[.int .i64 k, .map (some pt)] 125 (0, 0)) • qF pm U • Row 202 3 pv put.length xs • F)) (hU : (U k).length ≤ 16384) :
    fQ prog 57 #[.pointer (some ⟨e, 0, none⟩)] w fun v' w' => v' = .int .i64 (lW (U k) inn put (cls == 3 && whole) run) ∧
      aA w0 w' (cO e (.cells (x0 :: x1 :: .pointer (some ⟨pw, 0, none⟩) :: .map (some pm) :: x4 :: x5 :: x6 :: x7 :: x8 :: x9 :: .bool run :: x11 :: x12 :: Aa :: x14 :: x15 :: .bool inn :: x17 :: x18 :: x19 :: x20 :: x21 :: zi :: x23 :: x24 :: x25 :: zk :: x27 :: .int .i64 cls :: x29 :: x30 :: x31 :: .bool whole :: pv :: []).toArray 69 (0, 0)) • cO pw (.cells #[.int .i64 k, .map (some pt)] 125 (0, 0)) • qF pm U • Row 202 3 pv put.length xs • F) := by
  refine iw func57 ntmps57 ?_
  dsimp only [aZ, Nat.reduceAdd]
  refine ay (ah (aW rfl (aB (aj (ay (ah (aW rfl (aB (aj ?_)))))))))
  refine sZ [(0, _)] (fun (_ : Unit) => [(3, .int .i64 ((U k).length : Int))]) (fun (_ : Unit) W => aA w0 W (cO e (.cells (x0 :: x1 :: .pointer (some ⟨pw, 0, none⟩) :: .map (some pm) :: x4 :: x5 :: x6 :: x7 :: x8 :: x9 :: .bool run :: x11 :: x12 :: Aa :: x14 :: x15 :: .bool inn :: x17 :: x18 :: x19 :: x20 :: x21 :: zi :: x23 :: x24 :: x25 :: zk :: x27 :: .int .i64 cls :: x29 :: x30 :: x31 :: .bool whole :: pv :: []).toArray 69 (0, 0)) • cO pw (.cells #[.int .i64 k, .map (some pt)] 125 (0, 0)) • qF pm U • Row 202 3 pv put.length xs • F)) (Sub.cons rfl (Sub.nil _)) ?_ ?_
  · rintro _ w1 HJ
    dsimp only [List.cons_append, List.nil_append]
    refine ay (ay (ah (aP rfl (bT rfl (bf 16 underlying69 rfl sizeOf4 rfl (dA underlying4 rfl (HJ).get.2 rfl (jL rfl (fun h1 => ?_) (fun h1 => ?_))))))))
    · (try simp only [aG] at h1)
      have hin := h1
      refine bn (aP rfl (bn (bT rfl (bn (bf 33 underlying69 rfl sizeOf67 rfl (bn (dA underlying67 rfl (HJ).get.2 rfl (bn (aU (eY ((HJ.f4).aJ) underlying67 rfl) (bn (aU (gU rfl rfl) (jP rfl rfl (jL rfl (fun h2 => ?_) (fun h2 => ?_))))))))))))))
      · (try simp only [aG] at h2)
        have hno : put.isEmpty = false := by rw [kL]; exact decide_eq_false (by omega)
        refine bn (aP rfl (bn (bT rfl (bn (bf 28 underlying69 rfl sizeOf3 rfl (bn (dA underlying3 rfl (HJ).get.2 rfl (bn (aU (iQ rfl rfl) (bn (jL rfl (fun h3 => ?_) (fun h3 => ?_))))))))))))
        · (try simp only [aG] at h3)
          have hcl := h3
          refine bn (aP rfl (bn (bT rfl (bn (bf 32 underlying69 rfl sizeOf4 rfl (bn (dA underlying4 rfl (HJ).get.2 rfl (bn (jP rfl rfl (bn (jL rfl (fun h4 => ?_) (fun h4 => ?_))))))))))))
          · (try simp only [aG] at h4)
            have hwh := h4
            refine bn (aP rfl (bn (bT rfl (bn (bf 0 underlying69 rfl sizeOf64 rfl (bn (bf 10 underlying64 rfl sizeOf4 rfl (bn (dA underlying4 rfl (HJ).get.2 rfl (bn (jP rfl rfl (bn (aU (jT rfl) (jP rfl rfl (aB (aj (aO rfl (fun h5 => ?_) (fun h5 => ?_))))))))))))))))))
            · (try simp only [aG] at h5)
              have hrn := h5
              refine ah (aP rfl (aU (dR rfl rfl (by omega)) (aW rfl (aB (aj (ay (ah (aP rfl (aW rfl (aB (aj (aN (aT (.inl rfl) results57 rfl ?_)))))))))))))
              refine ⟨?_, HJ.f4.f4.f4.f4⟩
              congr 1
              unfold lW
              first
                | exact absurd hrn (by decide)
                | (simp [hin]; done)
                | (simp [hin, hno]; done)
                | (simp [hin, hno, hcl]; done)
                | (simp [hin, hno, hcl, hwh]; done)
                | (simp [hin, hno, hcl, hwh, hrn]; done)
            · (try simp only [aG] at h5)
              have hrn := h5
              refine aQ (aj (ay (ah (aP rfl (aW rfl (aB (aj (aN (aT (.inl rfl) results57 rfl ?_)))))))))
              refine ⟨?_, HJ.f4.f4.f4.f4⟩
              congr 1
              unfold lW
              first
                | exact absurd hrn (by decide)
                | (simp [hin]; done)
                | (simp [hin, hno]; done)
                | (simp [hin, hno, hcl]; done)
                | (simp [hin, hno, hcl, hwh]; done)
                | (simp [hin, hno, hcl, hwh, hrn]; done)
          · (try simp only [aG] at h4)
            have hwh := h4
            refine bK (bK (bK (bK (bK (bn (jd rfl rfl (bn (aU (jT rfl) (jP rfl rfl (aB (aj (aO rfl (fun h6 => ?_) (fun h6 => ?_)))))))))))))
            · (try simp only [aG] at h6)
              have hrn := h6
              refine ah (aP rfl (aU (dR rfl rfl (by omega)) (aW rfl (aB (aj (ay (ah (aP rfl (aW rfl (aB (aj (aN (aT (.inl rfl) results57 rfl ?_)))))))))))))
              refine ⟨?_, HJ.f4.f4.f4.f4⟩
              congr 1
              unfold lW
              first
                | exact absurd hrn (by decide)
                | (simp [hin]; done)
                | (simp [hin, hno]; done)
                | (simp [hin, hno, hcl]; done)
                | (simp [hin, hno, hcl, hwh]; done)
                | (simp [hin, hno, hcl, hwh, hrn]; done)
            · (try simp only [aG] at h6)
              have hrn := h6
              refine aQ (aj (ay (ah (aP rfl (aW rfl (aB (aj (aN (aT (.inl rfl) results57 rfl ?_)))))))))
              refine ⟨?_, HJ.f4.f4.f4.f4⟩
              congr 1
              unfold lW
              first
                | exact absurd hrn (by decide)
                | (simp [hin]; done)
                | (simp [hin, hno]; done)
                | (simp [hin, hno, hcl]; done)
                | (simp [hin, hno, hcl, hwh]; done)
                | (simp [hin, hno, hcl, hwh, hrn]; done)
        · (try simp only [aG] at h3)
          have hcl := h3
          refine bK (bK (bK (bK (bn (jd rfl rfl (bn (aP rfl (bK (bK (bK (bK (bK (bn (jd rfl rfl (bn (aU (jT rfl) (jP rfl rfl (aB (aj (aO rfl (fun h7 => ?_) (fun h7 => ?_)))))))))))))))))))))
          · (try simp only [aG] at h7)
            have hrn := h7
            refine ah (aP rfl (aU (dR rfl rfl (by omega)) (aW rfl (aB (aj (ay (ah (aP rfl (aW rfl (aB (aj (aN (aT (.inl rfl) results57 rfl ?_)))))))))))))
            refine ⟨?_, HJ.f4.f4.f4.f4⟩
            congr 1
            unfold lW
            first
              | exact absurd hrn (by decide)
              | (simp [hin]; done)
              | (simp [hin, hno]; done)
              | (simp [hin, hno, hcl]; done)
              | (simp [hin, hno, hcl, hwh]; done)
              | (simp [hin, hno, hcl, hwh, hrn]; done)
          · (try simp only [aG] at h7)
            have hrn := h7
            refine aQ (aj (ay (ah (aP rfl (aW rfl (aB (aj (aN (aT (.inl rfl) results57 rfl ?_)))))))))
            refine ⟨?_, HJ.f4.f4.f4.f4⟩
            congr 1
            unfold lW
            first
              | exact absurd hrn (by decide)
              | (simp [hin]; done)
              | (simp [hin, hno]; done)
              | (simp [hin, hno, hcl]; done)
              | (simp [hin, hno, hcl, hwh]; done)
              | (simp [hin, hno, hcl, hwh, hrn]; done)
      · (try simp only [aG] at h2)
        have hno : put.isEmpty = true := by rw [kL]; exact decide_eq_true (by omega)
        refine bK (bK (bK (bK (bK (bK (oI (oI (oI (oI (bK (bK (oI (oI (oI (oI (oI (bK (bK (jd rfl rfl (aB (aj (pW (aQ (aj (ay (ah (aP rfl (aW rfl (aB (aj (aN (aT (.inl rfl) results57 rfl ?_))))))))))))))))))))))))))))))))
        refine ⟨?_, HJ.f4.f4.f4.f4⟩
        congr 1
        unfold lW
        first
          | exact absurd hrn (by decide)
          | (simp [hin]; done)
          | (simp [hin, hno]; done)
          | (simp [hin, hno, hcl]; done)
          | (simp [hin, hno, hcl, hwh]; done)
          | (simp [hin, hno, hcl, hwh, hrn]; done)
    · (try simp only [aG] at h1)
      have hin := h1
      refine bK (bK (bK (bK (bK (bK (jd rfl rfl (aP rfl (bK (bK (bK (bK (bK (bK (oI (oI (oI (oI (bK (bK (oI (oI (oI (oI (oI (bK (bK (jd rfl rfl (aB (aj (pW (aQ (aj (ay (ah (aP rfl (aW rfl (aB (aj (aN ?_)))))))))))))))))))))))))))))))))))))))
      refine aT (.inl rfl) results57 rfl ?_
      refine ⟨?_, HJ.f4.f4.f4.f4⟩
      congr 1
      unfold lW
      first
        | exact absurd hrn (by decide)
        | (simp [hin]; done)
        | (simp [hin, hno]; done)
        | (simp [hin, hno, hcl]; done)
        | (simp [hin, hno, hcl, hwh]; done)
        | (simp [hin, hno, hcl, hwh, hrn]; done)
  · skip
    refine ay ?_
    obtain ⟨D, P, hD1, hD2, HU⟩ := (H.f3).RP
    have PN := HU.drew
    have kS := aA.kp (PN.f5.f5.f5.f5.f5)
    refine vJ [4, 9, 12, 13] kS rfl (fU 0 rfl kS rfl (iZ 1 rfl kS rfl (dU 2 rfl kS 0 underlying69 rfl sizeOf64 rfl (dU 3 rfl kS 3 underlying64 rfl sizeOf62 rfl (gG 4 rfl kS (fun W hW => iF underlying62 rfl ((Kp.h hW).f3).get.2 rfl) (fU 5 rfl kS rfl (iZ 6 rfl kS rfl (dU 7 rfl kS 0 underlying69 rfl sizeOf64 rfl (dU 8 rfl kS 2 underlying64 rfl sizeOf61 rfl (gG 9 rfl kS (fun W hW => iF underlying61 rfl ((Kp.h hW).f3).get.2 rfl) (iZ 10 rfl kS rfl (dU 11 rfl kS 0 underlying125 rfl sizeOf3 rfl (gG 12 rfl kS (fun W hW => iF underlying3 rfl ((Kp.h hW).f4).get.2 rfl) (gG 13 rfl kS (fun W hW => XQ (JQ ((Kp.h hW)) underlying62 underlying3 zeroValue187 rfl rfl) (NY D P k)) (gZ 14 rfl kS (fun _ => eX rfl) (mD (aj (ay (ah (aP rfl (aU (DI underlying187 rfl rfl) (aB (aj (aO rfl (fun h8 => ?_) (fun h8 => ?_)))))))))))))))))))))))))
    · (try simp only [aG] at h8)
      have hmem := Kv h8
      rw [J5 hmem]
      have HF := PN.f2
      rw [mV hmem] at HF
      have HF2 := HF.flat
      refine ah (aP rfl (dD rfl func117 (Hw HF2) ?_))
      rintro _ w2 ⟨rfl, H2⟩
      have Ho3 := H2.f2.f2
      have Hc4 := aA.of_eq Ho3 (by rw [← bF, ← mV hmem])
      have Yt := Hc4.f2
      have Yu := aA.xZ hD1 hD2 Yt
      refine aW rfl (aB ?_)
      refine dh (()) ?_ ?_ ?_
      · exact (Sub.iP rfl (by first | (rw [hD2 _ hnm]; rfl) | (simp; done)) (Sub.nil _))
      · exact (Sub.cons rfl (Sub.nil _))
      · (try dsimp only)
        first | done | exact Yu.f4.f2.f4.f4
    · (try simp only [aG] at h8)
      have hnm := Ip h8
      have Ru := PN.f2.f2
      have Pj := aA.xZ hD1 hD2 Ru
      refine aQ ?_
      refine dh (()) ?_ ?_ ?_
      · exact (Sub.iP rfl (by first | (rw [hD2 _ hnm]; rfl) | (simp; done)) (Sub.nil _))
      · exact (Sub.cons rfl (Sub.nil _))
      · (try dsimp only)
        first | done | exact Pj.f4.f2.f4.f4
theorem wI {x0 x2 x3 x4 x5 x6 x7 x8 x9 x10 x12 Aa x14 x15 x16 x17 x18 x19 x20 x21 zi x23 x24 x25 zk x27 x28 x29 x30 x31 x32 BQ : Value} (H : aA w0 w (cO e (.cells (x0 :: .pointer (some ⟨pr, 0, none⟩) :: x2 :: x3 :: x4 :: x5 :: x6 :: x7 :: x8 :: x9 :: x10 :: .pointer (some ⟨ph, 0, none⟩) :: x12 :: Aa :: x14 :: x15 :: x16 :: x17 :: x18 :: x19 :: x20 :: x21 :: zi :: x23 :: x24 :: x25 :: zk :: x27 :: x28 :: x29 :: x30 :: x31 :: x32 :: BQ :: []).toArray 69 (0, 0)) • eu pr E a • F)) : fQ prog 55 #[.pointer (some ⟨e, 0, none⟩)] w fun v' w' =>
  ∃ us, aA w0 w' (Row 23 1 v' E.length us • xG 21 .i32 us (pR E a) • cO e (.cells (x0 :: .pointer (some ⟨pr, 0, none⟩) :: x2 :: x3 :: x4 :: x5 :: x6 :: x7 :: x8 :: x9 :: x10 :: .pointer (some ⟨ph, 0, none⟩) :: x12 :: Aa :: x14 :: x15 :: x16 :: x17 :: x18 :: x19 :: x20 :: x21 :: zi :: x23 :: x24 :: x25 :: zk :: x27 :: x28 :: x29 :: x30 :: x31 :: x32 :: BQ :: []).toArray 69 (0, 0)) • eu pr E a • F) := by
 obtain ⟨hE1, hE2, hE3⟩ := LW H.swap
 refine iw func55 ntmps55 ?_
 dsimp only [aZ, Nat.reduceAdd]
 refine ay (ah (aW rfl (aB (aj (ay (ay (ah (aP rfl (dD rfl func54 (xH H) ?_)))))))))
 rintro _ _ ⟨rfl, rfl⟩
 refine aB (aj (pW (aQ (aj (ay (ah (aW rfl (aB (aj (ay (ah (aP rfl (bT rfl (bf 0 underlying69 rfl sizeOf64 rfl (bf 1 underlying64 rfl sizeOf60 rfl (dA underlying60 rfl (H).get.2 rfl (dD rfl func113 (xw H.f2) ?_)))))))))))))))))
 rintro _ w2 ⟨pc2, rfl, H2⟩
 refine aW rfl (aB (aj (ay (ay (ah (aP rfl (dD rfl func114 (Hr H2) ?_)))))))
 rintro _ _ ⟨rfl, rfl⟩
 refine aP rfl (aB (aj (aY ?_)))
 obtain ⟨R4, Y0, HR4⟩ := aA.XL (H2)
 refine eP [(4, _), (17, _)] (fun (⟨i, u⟩ : Nat × Value) => [(3, u), (18, .int .i64 (i : Int))]) (fun (⟨i, u⟩ : Nat × Value) W => i ≤ E.length ∧ ∃ us, aA w0 W (Row 23 1 u i us • xG 21 .i32 us ((pR E a).take i) • eu pc2 E (SY E.length a i) • R4)) (fun (⟨i, u⟩ : Nat × Value) => E.length - i) ((0, .slice none 0 0)) (Sub.cons rfl (Sub.cons rfl (Sub.nil _))) (Sub.cons rfl (Sub.cons rfl (Sub.nil _))) ⟨by omega, [], HR4.SX.iH none⟩ ?_
 rintro ⟨i, u⟩ w5 ⟨hi, us, HL⟩
 dsimp only [List.cons_append, List.nil_append]
 refine ay (ah (aU (dV rfl rfl) (aB (aj (ay (aO rfl (fun h1 => ?_) (fun h1 => ?_)))))))
 ·(try simp only [aG] at h1)
  refine aQ (aj (ay (aY (ay (ah (aP rfl (aW rfl (aB (aj (ay (ah (aP rfl (aP rfl (aU (Qm rfl rfl) (dD rfl func115 (CZ HL.f3) ?_)))))))))))))))
  rintro _ w6 ⟨u6, rfl, H6⟩
  have hne : ¬ E.length = 0 := by omega
  have HX := H6
  simp only [if_neg hne] at HX
  refine aP rfl (wQ rfl rfl (wQ rfl rfl (aW rfl (aW rfl (aB (aj (ah (aP rfl (aP rfl (gB (jv (vs := [_]) HX underlying22 sizeOf23 zeroValue23 rfl rfl rfl (by decide) (aC (by first | rfl | exact Rd.one ((HX).aJ)) bg)) ?_))))))))))
  rintro l7 w7 H7
  refine gB (fK H7.f4 underlying22 (show (prog.info? 23).map (fun i => (i.zero, i.size, i.bytes)) = some (some (.slice none 0 0), 1, 24) by kernel_rfl) rfl rfl rfl ((H7).aJ) (aC (by first | rfl | exact Rd.one ((H7.f2).aJ)) bg) (by omega) (by omega)) ?_
  rintro l8 w8 H8
  have Z5 := H8.f2.right
  refine aW rfl (aB (aH (aj (ah (aU (dR rfl rfl (by omega)) (aP rfl (aB ?_)))))))
  have HS := (Z5.f3.f2.f3.f4).yc.f2
  refine bZ ((i + 1, l8)) ?_ ?_ ?_ ?_
  ·exact (Sub.cons rfl (Sub.cons rfl (Sub.nil _)))
  ·exact (Sub.cons rfl (Sub.cons rfl (Sub.nil _)))
  ·(try dsimp only)
   first | done | exact ⟨by omega, _, by rw [ER (d := []) (by rw [Gv]; omega), PL (by omega) (by omega), ← PK]; exact HS⟩
  ·(try dsimp only); omega
 ·(try simp only [aG] at h1)
  refine dK (aV ?_)
  obtain rfl : i = E.length := by omega
  have HK := HL
  rw [List.take_of_length_le (by rw [Gv]; exact Nat.le_refl _)] at HK
  subst Y0
  refine aV (bD (aj (ay (ah (aP rfl (aW rfl (aB (aj (aN (aT (.inl rfl) results55 rfl ?_))))))))))
  exact ⟨_, HK.f3.right.f3.f4.f4.f4⟩
end
end Go.Proofs.YtddekefihgejoaaGreatDoor
end
