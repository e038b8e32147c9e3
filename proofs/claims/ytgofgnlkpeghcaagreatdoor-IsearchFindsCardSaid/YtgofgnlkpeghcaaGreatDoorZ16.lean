import Derived.Test.YtgofgnlkpeghcaaGreatDoorZ4
import Derived.Test.YtgofgnlkpeghcaaGreatDoorZ15
import Derived.Laws.IdiomStrings
import Derived.Test.YtgofgnlkpeghcaaGreatDoorZ14
import Derived.Test.YtgofgnlkpeghcaaGreatDoorZ12
import Derived.Test.YtgofgnlkpeghcaaGreatDoorZ11
import Derived.Test.YtgofgnlkpeghcaaGreatDoorZ2
import Derived.Test.YtgofgnlkpeghcaaGreatDoorZ3
import Derived.Scope
import Derived.Laws.RangeString
import Derived.Lib.OthersKept
import Derived.Lib.Bytealg
set_option linter.unusedSimpArgs false
set_option linter.unusedVariables false
/- Texts of mine, joined, their names in short: Utf5 StrB EdG EdGo IsM Str. -/
section
namespace Go.Proofs.YtgofgnlkpeghcaaGreatDoor
open Go.RowKit
open _root_.Go.Proofs.Tryz
theorem F6 {b : List Int} (h : GY b) (n : Nat) : GY (b.drop n) := fun x hx => h x (List.mem_of_mem_drop hx)
theorem Zi {b : List Int} (h : GY b) (n : Nat) : GY (b.take n) := fun x hx => h x (List.mem_of_mem_take hx)
theorem OQ {b : List Int} (h : vN b = true) : (rX b).1 = Lu (b.take (lN b).2) (b.take (lN b).2).length ∧ (rX b).2 = (lN b).2 := by
  have hn := GZ h
  have hl : (b.take (lN b).2).length = (lN b).2 := by rw [List.length_take]; omega
  unfold rX
  rw [if_pos h, hl]
  refine ⟨?_, rfl⟩
  have := aaf (b := b.take (lN b).2) (c := b.drop (lN b).2) (n := (lN b).2) hn.1 (by rw [hl]; exact Nat.le_refl _) hn.2.2.1
  rwa [List.take_append_drop] at this
theorem Ji {b : List Int} (h : vN b = false) : rX b = (65533, 1) := by unfold rX; rw [if_neg (by simp [h])]
theorem abB {b : List Int} (h : (lN b).1 = (lN b).2) (h2 : 0 < (lN b).2) : vN b = true := by unfold vN; simp [h, h2]
theorem QM {b : List Int} (h : ¬ ((lN b).1 = (lN b).2 ∧ 0 < (lN b).2)) : vN b = false := by unfold vN; simpa using h
theorem Fh (l : List Int) (k : Nat) (h : k < l.length) : uH (l.take (k + 1)) = uH (l.take k) ++ Lib.encodeRuneZ (l.getD k 0) := by
  unfold uH
  rw [List.take_succ_eq_append_getElem h, List.flatMap_append, List.getD_eq_getElem?_getD, List.getElem?_eq_getElem h]
  simp
theorem QN (l : List Int) : (uH l).length ≤ 4 * l.length := by
  induction l with
  | nil => simp [uH]
  | cons x r ih =>
    have h1 : uH (x :: r) = Lib.encodeRuneZ x ++ uH r := by simp [uH]
    have := (Lib.encodeRuneZ_length x).2
    rw [h1, List.length_append, List.length_cons]
    omega
theorem Yl {l : List Int} (k : Nat) : (uH (l.take k)).length ≤ 4 * l.length := by
  have := QN (l.take k)
  rw [List.length_take] at this
  omega
def vP (l : List Int) : Prop := ∀ x ∈ l, -2147483648 ≤ x ∧ x < 2147483648
theorem abC {l : List Int} (h : vP l) {k : Nat} (hk : k < l.length) : -2147483648 ≤ l.getD k 0 ∧ l.getD k 0 < 2147483648 := by
  rw [List.getD_eq_getElem?_getD, List.getElem?_eq_getElem hk]; exact h _ (List.getElem_mem hk)
section
variable {w0 w : World} {F : HP} {v : Value} {b l : List Int} {r x y : Int}
theorem DT (H : V w0 w F) (hT : Cj w0) (hv : jm w0 F .u8 v b) (hb : GY b) (hL : b.length ≤ 17179869184) : iM prog 38 #[v] w fun v' w' => V w0 w' (jR 21 .i32 v' (rY b) • F) := by
 refine iQ func38 ntmps38 ?_
 refine kQ O (kQ O (aO (bg ?_)))
 refine gq [] (fun (⟨v2, u, n⟩ : Value × Value × Nat) => [(0, v2), (3, u)]) (fun (⟨v2, u, n⟩ : Value × Value × Nat) W => ∃ b2 l2, (jm w0 F .u8 v2 b2 ∧ GY b2 ∧ l2 ++ rY b2 = rY b ∧ l2.length + b2.length ≤ b.length ∧ b2.length = n) ∧ V w0 W (jR 21 .i32 u l2 • F)) (fun (⟨v2, u, n⟩ : Value × Value × Nat) => n) ((v, .slice none 0 0, b.length)) (Sub.nil _) rP ⟨b, [], ⟨hv, hb, O, by simp, O⟩, (H).gG none⟩ ?_
 rintro ⟨v2, u, n⟩ w1 ⟨b2, l2, ⟨hv2, hb2, hr2, hl2, hn2⟩, HL⟩
 dsimp only [List.cons_append, List.nil_append]
 refine aO (bY O (aW (jJ (hv2 _ (HL.right)) bf O) (aW (iT O O) (jv O (fun h1 => ?_) (fun h1 => ?_)))))
 ·(try simp only [aF] at h1)
  refine iy (bg (aO ?_))
  have hne : b2 ≠ [] := by rintro rfl; simp at *
  have hd := EW hne
  refine aA (bT O (fE O func82 (W9 HL hT (fun W HW => hv2 _ (HW.right)) (by assumption) (by assumption)) ?_))
  rintro _ w2 ⟨rfl, H2⟩
  refine bT O (sD O O (sD O O (iC O (iP O (bY O (bT O (iY (iU (k := .i32) (l := [_]) H2 ay iE zeroValue21 O O O (by decide)) ?_)))))))
  rintro l3 w3 H3
  refine iY (dL H3.f2 ((H3).aN) ay KT O O (by first | omega | (simp only [List.length_append, List.length_nil, List.length_cons]; omega) | (simp; omega)) (by first | omega | (simp only [List.length_append, List.length_nil, List.length_cons]; omega) | (simp; omega))) ?_
  rintro l4 w4 H4
  try simp only [List.nil_append] at H4
  refine iP O (aA (jy O O (aW (vU (hv2 _ (H4.right.right)) bf eP O O O (by omega)) ?_)))
  refine iC O (bZ (aP ?_))
  refine dN (_, _, _) rP (Sub.nil _) (by (try dsimp only); exact ⟨_, _, ⟨fun W HW => jP.from (hv2 W HW) hd.2.1, F6 hb2 _, by rw [← hr2, zO hne, List.append_assoc]; rfl, by rw [List.length_append, List.length_drop]; simp only [List.length_cons, List.length_nil]; omega, O⟩, H4.f2.right⟩) ?_
  ·(try dsimp only); rw [List.length_drop]; omega
 ·(try simp only [aF] at h1)
  refine eH (aT (aT (bU (aZ (bY O (ig O (fD results38 O ?_)))))))
  obtain rfl : b2 = [] := List.eq_nil_of_length_eq_zero (by omega)
  rw [G6, List.append_nil] at hr2
  subst hr2
  exact HL
theorem zG (H : V w0 w F) (hv : jm w0 F .u8 v b) (hb : GY b) (hL : b.length ≤ 17179869184) : iM prog 41 #[v] w fun v' w' => V w0 w' (jR 21 .i32 v' (rY b) • F) := by
 refine iQ func41 ntmps41 ?_
 refine kQ O (kQ O (aO (bg ?_)))
 refine gq [] (fun (⟨v2, u, n⟩ : Value × Value × Nat) => [(0, v2), (3, u)]) (fun (⟨v2, u, n⟩ : Value × Value × Nat) W => ∃ b2 l2, (jm w0 F .u8 v2 b2 ∧ GY b2 ∧ l2 ++ rY b2 = rY b ∧ l2.length + b2.length ≤ b.length ∧ b2.length = n) ∧ V w0 W (jR 21 .i32 u l2 • F)) (fun (⟨v2, u, n⟩ : Value × Value × Nat) => n) ((v, .slice none 0 0, b.length)) (Sub.nil _) rP ⟨b, [], ⟨hv, hb, O, by simp, O⟩, (H).gG none⟩ ?_
 rintro ⟨v2, u, n⟩ w1 ⟨b2, l2, ⟨hv2, hb2, hr2, hl2, hn2⟩, HL⟩
 dsimp only [List.cons_append, List.nil_append]
 refine aO (bY O (aW (jJ (hv2 _ (HL.right)) bf O) (aW (iT O O) (jv O (fun h1 => ?_) (fun h1 => ?_)))))
 ·(try simp only [aF] at h1)
  refine iy (bg (aO ?_))
  have hne : b2 ≠ [] := by rintro rfl; simp at *
  have hd := EW hne
  refine aA (bT O (fE O func91 (abz HL (fun W HW => hv2 _ (HW.right)) (by assumption)) ?_))
  rintro _ w2 ⟨rfl, H2⟩
  refine bT O (sD O O (sD O O (iC O (iP O (bY O (bT O (aW (kP O O) (mX O (fun h2 => ?_) (fun h2 => ?_)))))))))
  ·(try simp only [aF] at h2)
   refine bW (bT O (bW (aW (iT O O) (nZ O O (jv O (fun h3 => ?_) (fun h3 => ?_))))))
   ·(try simp only [aF] at h3)
    refine aO ?_
    have hw : vN b2 = true := abB (by omega) (by omega)
    have hwl := GZ hw
    have hlt : (b2.take (((lN b2).2 : Nat) : Int).toNat).length = (lN b2).2 := by rw [Int.toNat_natCast, List.length_take]; omega
    refine aA (jy O O (bT O (aW (vU (hv2 _ (H2.right)) bf eP O O O (by omega)) ?_)))
    refine fE O func92 (Zh H2 (fun W HW => jP.upto (hv2 _ (HW.right)) (by omega)) (Zi hb2 _) (by rw [hlt]; omega)) ?_
    rintro _ w3 ⟨rfl, H3⟩
    rw [show Lu (b2.take (((lN b2).2 : Nat) : Int).toNat) (b2.take (((lN b2).2 : Nat) : Int).toNat).length = (rX b2).1 from (OQ hw).1.symm]
    refine iY (iU (k := .i32) (l := [_]) H3 ay iE zeroValue21 O O O (by decide)) ?_
    rintro l4 w4 H4
    refine iY (dL H4.f2 ((H4).aN) ay KT O O (by first | omega | (simp only [List.length_append, List.length_nil, List.length_cons]; omega) | (simp; omega)) (by first | omega | (simp only [List.length_append, List.length_nil, List.length_cons]; omega) | (simp; omega))) ?_
    rintro l5 w5 H5
    try simp only [List.nil_append] at H5
    refine iP O (aA (jy O O (aW (vU (hv2 _ (H5.right.right)) bf eP O O O (by omega)) ?_)))
    refine iC O ?_
    have hcut : jm w0 F .u8 (uo 1 (((lN b2).2 : Nat) : Int).toNat ((b2.length : Nat) : Int).toNat v2) (b2.drop (rX b2).2) := fun W HW => by rw [(OQ hw).2]; exact jP.from (hv2 W HW) hwl.2.1
    have hrun : (l2 ++ [(rX b2).1]) ++ rY (b2.drop (rX b2).2) = rY b := by rw [← hr2, zO hne, List.append_assoc]; rfl
    refine bZ (aP ?_)
    refine dN (_, _, _) rP (Sub.nil _) (by (try dsimp only); exact ⟨_, _, ⟨hcut, F6 hb2 _, hrun, by rw [List.length_append, List.length_drop]; simp only [List.length_cons, List.length_nil]; omega, O⟩, H5.f2.right⟩) ?_
    ·(try dsimp only); rw [List.length_drop]; omega
   ·(try simp only [aF] at h3)
    refine aO ?_
    have hw : vN b2 = false := QM (by omega)
    refine aA (bT O (iY (iU (k := .i32) (l := [65533]) H2 ay iE zeroValue21 O O O (by decide)) ?_))
    rintro l6 w6 H6
    refine iY (dL H6.f2 ((H6).aN) ay KT O O (by first | omega | (simp only [List.length_append, List.length_nil, List.length_cons]; omega) | (simp; omega)) (by first | omega | (simp only [List.length_append, List.length_nil, List.length_cons]; omega) | (simp; omega))) ?_
    rintro l7 w7 H7
    try simp only [List.nil_append] at H7
    refine iP O (aA (bT O (aW (vU (hv2 _ (H7.right.right)) bf eP O O O (by omega)) ?_)))
    refine iC O ?_
    have hcut : jm w0 F .u8 (uo 1 (1 : Int).toNat ((b2.length : Nat) : Int).toNat v2) (b2.drop (rX b2).2) := fun W HW => by rw [Ji hw]; exact jP.from (hv2 W HW) (by omega)
    have hrun : (l2 ++ [65533]) ++ rY (b2.drop (rX b2).2) = rY b := by rw [← hr2, zO hne, List.append_assoc, Ji hw]; rfl
    refine bZ (aP ?_)
    refine dN (_, _, _) rP (Sub.nil _) (by (try dsimp only); exact ⟨_, _, ⟨hcut, F6 hb2 _, hrun, by rw [List.length_append, List.length_drop]; simp only [List.length_cons, List.length_nil]; omega, O⟩, H7.f2.right⟩) ?_
    ·(try dsimp only); rw [List.length_drop]; omega
  ·(try simp only [aF] at h2)
   refine dF (dF (kX O O (jd (vS (aO ?_)))))
   have hw : vN b2 = false := QM (by omega)
   refine aA (bT O (iY (iU (k := .i32) (l := [65533]) H2 ay iE zeroValue21 O O O (by decide)) ?_))
   rintro l8 w8 H8
   refine iY (dL H8.f2 ((H8).aN) ay KT O O (by first | omega | (simp only [List.length_append, List.length_nil, List.length_cons]; omega) | (simp; omega)) (by first | omega | (simp only [List.length_append, List.length_nil, List.length_cons]; omega) | (simp; omega))) ?_
   rintro l9 w9 H9
   try simp only [List.nil_append] at H9
   refine iP O (aA (bT O (aW (vU (hv2 _ (H9.right.right)) bf eP O O O (by omega)) ?_)))
   refine iC O ?_
   have hcut : jm w0 F .u8 (uo 1 (1 : Int).toNat ((b2.length : Nat) : Int).toNat v2) (b2.drop (rX b2).2) := fun W HW => by rw [Ji hw]; exact jP.from (hv2 W HW) (by omega)
   have hrun : (l2 ++ [65533]) ++ rY (b2.drop (rX b2).2) = rY b := by rw [← hr2, zO hne, List.append_assoc, Ji hw]; rfl
   refine bZ (aP ?_)
   refine dN (_, _, _) rP (Sub.nil _) (by (try dsimp only); exact ⟨_, _, ⟨hcut, F6 hb2 _, hrun, by rw [List.length_append, List.length_drop]; simp only [List.length_cons, List.length_nil]; omega, O⟩, H9.f2.right⟩) ?_
   ·(try dsimp only); rw [List.length_drop]; omega
 ·(try simp only [aF] at h1)
  refine eH (aT (aT (bU (aZ (bY O (ig O (fD results41 O ?_)))))))
  obtain rfl : b2 = [] := List.eq_nil_of_length_eq_zero (by omega)
  rw [G6, List.append_nil] at hr2
  subst hr2
  exact HL
theorem Zj (H : V w0 w F) (hv : jm w0 F .i32 v l) (hl : vP l) (hL : l.length ≤ 17179869184) : iM prog 110 #[v] w fun v' w' => V w0 w' (jR 5 .u8 v' (uH l) • F) := by
 refine iQ func110 ntmps110 ?_
 refine kQ O (kQ O (aO (bY O (aW (jJ (hv _ (H)) ay O) (bT O (jd (bg ?_)))))))
 refine gq [(6, _), (7, _)] (fun (⟨k, u⟩ : Nat × Value) => [(8, .int .i64 (k : Int)), (3, u)]) (fun (⟨k, u⟩ : Nat × Value) W => k ≤ l.length ∧ V w0 W (jR 5 .u8 u (uH (l.take k)) • F)) (fun (⟨k, u⟩ : Nat × Value) => l.length - k) ((0, .slice none 0 0)) rP rP ⟨by omega, (H).gG none⟩ ?_
 rintro ⟨k, u⟩ w1 ⟨hk, HL⟩
 dsimp only [List.cons_append, List.nil_append]
 refine jw (aW (fG O O) (rV (dA O (fun h1 => ?_) (fun h1 => ?_))))
 ·(try simp only [aF] at h1)
  refine iy (aO (bg (aO ?_)))
  have hkl : k < l.length := by omega
  have hbb := Yl (l := l) k
  have hrr := abC hl hkl
  refine aA ?_
  obtain ⟨bv, ov, cv, ev⟩ := jP.nR (hv _ (HL.right)) (by omega)
  cases ev
  refine aW (dD ay iE O O (by omega)) ?_
  refine aW (eG (dn dM O) O (by first | exact jP.sO (hv _ (HL.right)) (by omega) | exact jP.EF (hv _ (HL.right)) (by omega) | exact jP.Ey (hv _ (HL.right)) (by omega))) ?_
  refine sS O (bY O (fE O func148 (adX) ?_))
  rintro _ _ ⟨rfl, rfl⟩
  refine aW (mG O) (jv O (fun h2 => ?_) (fun h2 => ?_))
  ·(try simp only [aF] at h2)
   have henc : Lib.encodeRuneZ (l.getD k 0) = Lib.encodeRuneZ 65533 := by rw [J6 (by simpa using h2)]; rfl
   refine aA (iP O (aA (jy O O (fE O func149 (Jh HL (by omega) (by omega)) ?_))))
   rintro u3 w3 H3
   refine iC O (bZ (aP (aZ (aA (aW (fP O O (by omega)) (bT O (bZ ?_)))))))
   refine dN ((k + 1, u3)) ?_ ?_ ?_ ?_
   ·exact rP
   ·exact rP
   ·(try dsimp only)
    first | done | exact ⟨by omega, by rw [Fh l k hkl]; first | exact H3 | (rw [henc]; exact H3)⟩
   ·(try dsimp only); omega
  ·(try simp only [aF] at h2)
   refine iy (aA (jy O O (fE O func149 (Jh HL (by omega) (by omega)) ?_)))
   rintro u4 w4 H4
   refine iC O (bZ (aP (aZ (aA (aW (fP O O (by omega)) (bT O (bZ ?_)))))))
   refine dN ((k + 1, u4)) ?_ ?_ ?_ ?_
   ·exact rP
   ·exact rP
   ·(try dsimp only)
    first | done | exact ⟨by omega, by rw [Fh l k hkl]; first | exact H4 | (rw [henc]; exact H4)⟩
   ·(try dsimp only); omega
 ·(try simp only [aF] at h1)
  refine eH (aT (aT (bU (aZ (bY O (ig O (fD results110 O ?_)))))))
  obtain rfl : k = l.length := by omega
  rw [List.take_length] at HL
  exact HL
theorem PV (H : V w0 w F) (hv : jm w0 F .i32 v l) (hl : vP l) (hL : l.length ≤ 17179869184) : iM prog 124 #[v] w fun v' w' => V w0 w' (jR 5 .u8 v' (uH l) • F) := by
 refine iQ func124 ntmps124 ?_
 refine kQ O (kQ O (aO (kQ O (bg ?_))))
 refine gq [(0, _)] (fun (⟨k, u⟩ : Nat × Value) => [(4, .int .i64 (k : Int)), (3, u)]) (fun (⟨k, u⟩ : Nat × Value) W => k ≤ l.length ∧ V w0 W (jR 5 .u8 u (uH (l.take k)) • F)) (fun (⟨k, u⟩ : Nat × Value) => l.length - k) ((0, .slice none 0 0)) oO rP ⟨by omega, (H).gG none⟩ ?_
 rintro ⟨k, u⟩ w1 ⟨hk, HL⟩
 dsimp only [List.cons_append, List.nil_append]
 refine aO (bY O (bT O (aW (jJ (hv _ (HL.right)) ay O) (aW (fG O O) (jv O (fun h1 => ?_) (fun h1 => ?_))))))
 ·(try simp only [aF] at h1)
  refine iy (aO (bg ?_))
  have hkl : k < l.length := by omega
  have hbb := Yl (l := l) k
  have hrr := abC hl hkl
  have hee := (Lib.encodeRuneZ_length (l.getD k 0)).2
  refine aA (jy O O (bT O ?_))
  obtain ⟨bv, ov, cv, ev⟩ := jP.nR (hv _ (HL.right)) (by omega)
  cases ev
  refine aW (dD ay iE O O (by omega)) ?_
  refine aW (eG (dn dM O) O (by first | exact jP.sO (hv _ (HL.right)) (by omega) | exact jP.EF (hv _ (HL.right)) (by omega) | exact jP.Ey (hv _ (HL.right)) (by omega))) ?_
  refine fE O func153 (abA HL (by omega)) ?_
  rintro u2 w2 H2
  refine iY (dL H2.f2 ((H2).aN) bf Jg O O (by first | omega | (simp only [List.length_append, List.length_nil, List.length_cons]; omega) | (simp; omega)) (by first | omega | (simp only [List.length_append, List.length_nil, List.length_cons]; omega) | (simp; omega))) ?_
  rintro l3 w3 H3
  try simp only [List.nil_append] at H3
  refine iC O (bZ (aP (aZ (aA (bT O (aW (fP O O (by omega)) (iC O (bZ ?_))))))))
  refine dN ((k + 1, l3)) ?_ ?_ ?_ ?_
  ·exact rP
  ·exact oO
  ·(try dsimp only)
   first | done | exact ⟨by omega, by rw [Fh l k hkl]; exact H3.f2.right⟩
  ·(try dsimp only); omega
 ·(try simp only [aF] at h1)
  refine eH (aT (aT (bU (aZ (bY O (ig O (fD results124 O ?_)))))))
  obtain rfl : k = l.length := by omega
  rw [List.take_length] at HL
  exact HL
end
end Go.Proofs.YtgofgnlkpeghcaaGreatDoor
end
section
namespace Go.Proofs.YtgofgnlkpeghcaaGreatDoor
open Go.RowKit
def QO (l : List Int) : ByteArray := l.foldl (fun s n => s.push (UInt8.ofNat n.toNat)) .empty
theorem Xc (l : List Int) : QO l = ⟨(l.map fun n => UInt8.ofNat n.toNat).toArray⟩ := by
  have key : ∀ (l : List Int) (s : ByteArray), l.foldl (fun s n => s.push (UInt8.ofNat n.toNat)) s = ⟨s.data ++ (l.map fun n => UInt8.ofNat n.toNat).toArray⟩ := by
    intro l
    induction l with
    | nil => intro s; simp
    | cons x r ih =>
      intro s
      rw [List.foldl_cons, ih]
      simp [ByteArray.push]
  unfold QO
  rw [key]
  simp
def uP (s : ByteArray) : List Int := s.data.toList.map fun b => (b.toNat : Int)
theorem oq (s : ByteArray) : (uP s).length = s.size := by unfold uP; simp
theorem vH (s : ByteArray) : ∀ x ∈ uP s, 0 ≤ x ∧ x < 256 := by
  intro x hx
  obtain ⟨b, _, rfl⟩ := List.mem_map.1 hx
  have := b.toNat_lt
  omega
section
variable {P : Program} {L : List (Nat × Value)} {w0 w : World} {F : HP} {ty : TypeId} {x : Operand}
theorem KU {src dst e : TypeId} {v : Value} {l : List Int} (hs : P.underlying src = some (.slice e)) (hd : P.underlying dst = some .string) (he : P.underlying e = some (.int .u8)) (hx : ev L x = some v) (hr : jP w .u8 v l) :
    Val P L (.convert src dst x) ty w (.string (QO l)) w := fun ρ hρ _ _ _ _ => by
  obtain ⟨a, c, rfl, _, _, hc⟩ := Rd.cells (P := P) hr
  have loop : ∀ (f : Value → ByteArray → Sem (ForInStep ByteArray)), (∀ n s, f (.int .u8 n) s = pure (ForInStep.yield (s.push (UInt8.ofNat n.toNat)))) → ∀ (l : List Int) (s : ByteArray), (forIn (m := Sem) (l.map (Value.int .u8)).toArray s f).run P w = .ok (l.foldl (fun s n => s.push (UInt8.ofNat n.toNat)) s) w := by
    intro f hf l
    induction l with
    | nil => intro s; rfl
    | cons x l ih => intro s; simp [hf] at ih ⊢; try exact ih _
  have h1 : (Conv.bytesToString (.slice a l.length c)).run P w = .ok (.string (QO l)) w := by
    unfold Conv.bytesToString
    cases a with
    | none =>
      have : l = [] := by
        cases l with
        | nil => rfl
        | cons x l =>
          obtain ⟨_, _, e, _, _, hh⟩ := hr.open
          cases e
          obtain ⟨_, _, e, _⟩ := hh (by simp)
          cases e
      subst this; rfl
    | some a =>
      have h2 : (loadCells a l.length).run P w = .ok (l.map (Value.int .u8)).toArray w := by simpa [Builtin.firstCells] using hc
      simp only [Sem.run_bind, h2, Result.andThen_ok]
      rw [loop]
      · rfl
      · intro n s; rfl
  simp [execOp, hρ _ _ hx, convert, run_underlying hs, run_underlying hd, run_underlying he, h1]
theorem rE {src dst e : TypeId} {s : ByteArray} (H : V w0 w F) (hs : P.underlying src = some .string) (hd : P.underlying dst = some (.slice e)) (he : P.underlying e = some (.int .u8)) (hx : ev L x = some (.string s)) (h63 : (s.size : Int) ≤ 4611686018427387904) :
    zB P L (.convert src dst x) ty w fun v w' => V w0 w' (nS .u8 v (uP s) • F) := by
  have hge := grownCap_ge w s.size 0 e
  refine wM (v := .slice (some ⟨w.heap.size, 0, none⟩) s.size (grownCap w s.size 0 e)) (w' := w.drew.alloc (.cells (bytesRow s (grownCap w s.size 0 e)) e ((bytesRow s (grownCap w s.size 0 e)).size, (bytesRow s (grownCap w s.size 0 e)).size + 1))) ?_ ?_
  · intro ρ hρ d pos rF g
    simp only [execOp, hρ _ _ hx, Sem.run_bind, run_bytes_of_string w src dst e s hs hd he]
    rfl
  · refine (H.drew.alloc _).freeze.F9 (qJ (fun I hI => ?_) F)
    refine ⟨some ⟨w.heap.size, 0, none⟩, grownCap w s.size 0 e, by rw [oq], by rw [oq]; exact hge, ET w _ _ _ (by omega), fun _ => ⟨w.heap.size, 0, _, _, _, rfl, hI, fun j hj => ?_⟩⟩
    rw [oq] at hj
    unfold bytesRow uP
    rw [Nat.zero_add, Array.getElem?_append_left (by simpa using hj)]
    simp [List.getD_eq_getElem?_getD]
    have hj2 : j < s.data.size := hj
    exact ⟨s.data[j], Array.getElem?_eq_getElem hj2, by rw [Array.getElem?_eq_getElem hj2]; rfl⟩
end
end Go.Proofs.YtgofgnlkpeghcaaGreatDoor
end
section
namespace Go.Proofs.YtgofgnlkpeghcaaGreatDoor
open Go.RowKit
open _root_.Go.Proofs.Tryz
def Ep (hl : List oH) (tx : Int → Option ByteArray) (place : Int) (L : List Int) : ByteArray := if rY (uP (dR hl tx place)) = L then dR hl tx place else QO (uH L)
theorem qB {hl : List oH} {tx : Int → Option ByteArray} (h1 : ∀ x ∈ hl, aat x) (h2 : ∀ k t, tx k = some t → t.size ≤ 16384) (k : Int) : (dR hl tx k).size ≤ 16384 := by
  unfold dR
  cases h : tx k with
  | some t => exact h2 k t h
  | none =>
    show (vC hl k).size ≤ 16384
    unfold vC Sj
    split
    · rename_i hk
      rw [List.getD_eq_getElem?_getD, List.getElem?_eq_getElem (by omega)]
      exact (h1 _ (List.getElem_mem _)).1
    · simp
section
variable {w0 w : World} {F : HP} {e pb pw pt ph : Nat} {L : List Int} {pnt mk place base most : Int} {tx : Int → Option ByteArray} {hl : List oH}
theorem KW {x1 x3 x4 x5 x6 x7 x8 x9 x10 x12 tZ x14 x15 x16 x17 x18 x19 x20 x21 uq x23 x24 x25 uz x27 x28 x29 x30 x31 x32 uX : Value} (H : V w0 w (eF e (.cells (.pointer (some ⟨pb, 0, none⟩) :: x1 :: .pointer (some ⟨pw, 0, none⟩) :: x3 :: x4 :: x5 :: x6 :: x7 :: x8 :: x9 :: x10 :: .pointer (some ⟨ph, 0, none⟩) :: x12 :: tZ :: x14 :: x15 :: x16 :: x17 :: x18 :: x19 :: x20 :: x21 :: uq :: x23 :: x24 :: x25 :: uz :: x27 :: x28 :: x29 :: x30 :: x31 :: x32 :: uX :: []).toArray 113 (0, 0)) • ji pb L pnt mk • eF pw (.cells #[.int .i64 place, .map (some pt)] 130 (0, 0)) • jM vF pt (vG tx) • iI ph hl base most • F))
  (hT : Cj w0) (hR : vP L) (hsz : (dR hl tx place).size ≤ 16384) :
  iM prog 61 #[.pointer (some ⟨e, 0, none⟩)] w fun v' w' => v' = .string (Ep hl tx place L) ∧ V w0 w' (eF e (.cells (.pointer (some ⟨pb, 0, none⟩) :: x1 :: .pointer (some ⟨pw, 0, none⟩) :: x3 :: x4 :: x5 :: x6 :: x7 :: x8 :: x9 :: x10 :: .pointer (some ⟨ph, 0, none⟩) :: x12 :: tZ :: x14 :: x15 :: x16 :: x17 :: x18 :: x19 :: x20 :: x21 :: uq :: x23 :: x24 :: x25 :: uz :: x27 :: x28 :: x29 :: x30 :: x31 :: x32 :: uX :: []).toArray 113 (0, 0)) • ji pb L pnt mk • eF pw (.cells #[.int .i64 place, .map (some pt)] 130 (0, 0)) • jM vF pt (vG tx) • iI ph hl base most • F) := by
 have hbz : (uP (dR hl tx place)).length ≤ 17179869184 := by rw [oq]; omega
 have hbi : GY (uP (dR hl tx place)) := vH _
 have hLl : L.length ≤ 1024 := by obtain ⟨a, c, xs, f, t, h1, h2, h3, h4, h5, h6, h7, hc1, hc2, hl, H1⟩ := (H.f2).buf; exact h4
 refine iQ func61 ntmps61 ?_
 refine kQ O (aO (bY O (mJ O O (bn 0 ah O aS O (bn 2 aK O lK O (fB jr O (H).get.2 O (dO O (bn 0 fF O aj O (fB aB O (H.f3).get.2 O (fE O func62 (vZ H.f5.f5.f5.f4) ?_))))))))))
 rintro _ w1 ⟨rfl, H1⟩
 refine sS O ?_
 have J5 := H1.drew
 have kH := V.kp (J5.f5.f5.f5.f5.f5)
 refine uU [7] kH O (gQ 0 O kH O (gQ 3 O kH O (jQ 4 O kH O (fQ 5 O kH 0 ah O aS O (fQ 6 O kH 0 aK O oh O (iO 7 O kH (fun W hW => jT lX O ((Kp.h hW)).get.2 O) (lU 1 O (rE J5 dU bf bD O (by omega)) ?_)))))))
 rintro l2 w2 H2
 have zT := V.kp (H2.f6.f6.f6.f6.f6.f6)
 refine dZ zT (fun W hW => (Kp.h hW).right.f5.f5.f5.f5.f5) ?_
 refine lU 2 O (wY O func38 (DT H2 (by assumption) (fun W HW => (HW).jh) (by assumption) (by omega))) ?_
 rintro u3 w3 H3
 have nT := V.kp (H3.f7.f7.f7.f7.f7.f7.f7)
 refine dZ nT (fun W hW => (Kp.h hW).right.f6.f6.f6.f6.f6.f6) ?_
 refine lU 8 O (wY O func95 (yg H3.f7)) ?_
 rintro u4 w4 H4
 have uZ := V.kp (H4.f8.f8.f8.f8.f8.f8.f8.f8)
 refine fH uZ (by kernel_rfl) ?_
 refine lU 9 O (wY O func42 (JH _ _ _ _ _ ((H4.f3).aN) ((H4).aN))) ?_
 rintro _ w5 ⟨rfl, hD5⟩
 have HD5 := H4.Gp hD5
 have vw := V.kp (HD5.f8.f8.f8.f8.f8.f8.f8.f8)
 refine fH vw (by kernel_rfl) ?_
 refine qj (aZ (dA O (fun h1 => ?_) (fun h1 => ?_)))
 ·(try simp only [aF] at h1)
  have hq := h1
  refine bY O (ig O (aC (fD results61 O ?_)))
  exact ⟨by unfold Ep; rw [if_pos hq], HD5.right.f2.right.f2.right.f5.f5.f5.f4.f5⟩
 ·(try simp only [aF] at h1)
  have hq := h1
  refine iy (bY O (dO O (bn 0 ah O aS O (bn 0 aK O oh O (fB lX O (HD5.f5).get.2 O (fE O func95 (yg HD5.f2) ?_))))))
  rintro u6 w6 H6
  refine fE O func110 (Zj H6 (fun W HW => (HW).aN) (by assumption) (by omega)) ?_
  rintro u7 w7 H7
  refine aW (KU bf dU bD O ((H7).aN)) (ig O (fD results61 O ?_))
  exact ⟨by unfold Ep; rw [if_neg hq], H7.right.right.f2.right.f2.right.f2.right.f5.f5.f5.f4.f5⟩
end
namespace dw
variable (s : dw)
def pK : ByteArray := Ep s.hl s.c.tx s.c.place s.c.L
def rJ (k : Int) : List Int := rY (uP (if k = s.c.place then s.pK else s.stands k))
def qC (k : Int) : Int := if s.inn then (if k < 0 ∨ s.hl.length < k then 6 else if 1024 < (s.rJ k).length then 6 else 0) else 1
def wz (k : Int) : dw :=
  if s.qC k = 0 then
    let t := s.fM false
    { t with whole := false, c := { t.c with tx := sV t.c.tx t.c.place (some t.pK), place := k, L := s.rJ k, pt := (s.rJ k).length, mark := -1, run := false } }
  else s
end dw
theorem J7 {s : dw} (h : JZ s.hl s.c) (hl : ∀ x ∈ s.hl, aat x) (hL : s.c.L.length ≤ 1024) : s.pK.size ≤ 16384 := by
  unfold dw.pK Ep
  split
  · exact qB hl h.2.2 _
  · have h1 := QN s.c.L
    have h2 : (QO (uH s.c.L)).size = (uH s.c.L).length := by rw [Xc]; show (((uH s.c.L).map fun n => UInt8.ofNat n.toNat).toArray).size = _; simp
    rw [h2]; omega
theorem OT (s : dw) (on : Bool) : (s.fM on).hl = s.hl ∧ (s.fM on).c.tx = s.c.tx ∧ (s.fM on).c.place = s.c.place ∧ (s.fM on).c.L = s.c.L := by
  unfold dw.fM; split <;> exact ⟨rfl, rfl, rfl, rfl⟩
theorem abD (tx : Int → Option ByteArray) (k : Int) (b : ByteArray) : upd (vG tx) k (.string b) = vG (sV tx k (some b)) := by
  funext x
  unfold upd vG sV
  split <;> rfl
theorem V.abE {w0 w : World} {F : HP} {b : Nat} {U : Int → List (List kC)} (H : V w0 w (Ag b U • F)) (k : Int) : iD (U k) [] ≤ 16384 := by
  obtain ⟨D, P, h1, h2, H1⟩ := H.aaW
  by_cases hk : k ∈ D
  · have H2 := H1.aaX h1 h2 hk
    obtain ⟨gv, nv, gs, now, k1, _⟩ := H2.Ah
    exact k1.2.1
  · rw [h2 k hk]; decide
theorem Zk (s : dw) (on : Bool) : (s.fM on).put = [] := by
  unfold dw.fM; split
  · assumption
  · rfl
theorem Ym {t : dw} {k : Int} {l : List Int} (h : pz t) (hp : t.put = []) (hk : ¬ (k < 0 ∨ (t.hl.length : Int) < k)) (hh : t.pK.size ≤ 16384) (hu : iD (t.c.un k) [] ≤ 16384) :
    pz { t with whole := false, c := { t.c with tx := sV t.c.tx t.c.place (some t.pK), place := k, L := l, pt := l.length, mark := -1, run := false } } := by
  obtain ⟨h1, h2, h3, h4, h5, h6⟩ := h
  refine ⟨⟨by show 0 ≤ k; omega, by show k ≤ t.hl.length; omega, fun x b hb => ?_⟩, h2, h3, h4, ?_, h6⟩
  · by_cases hx : x = t.c.place
    · subst hx
      have : some t.pK = some b := (kL t.c.tx t.c.place (some t.pK)).symm.trans hb
      cases this; exact hh
    · exact h1.2.2 x b ((uK t.c.tx (some t.pK) hx).symm.trans hb)
  · show iD (t.c.un k) t.put ≤ 16384
    rw [hp]; exact hu
section
variable {w0 w : World} {F : HP} {e : Nat} {s : dw} {k : Int}
theorem KX (H : V w0 w (jq e s • F)) (hT : Cj w0) (hR : vP s.c.L) : iM prog 24 #[.pointer (some ⟨e, 0, none⟩), .int .i64 k] w fun v w' => v = .int .i64 (s.qC k) ∧ V w0 w' (jq e (s.wz k) • F) := by
 refine qI func24 ntmps24 ?_
 refine kQ O (aO (bY O (fE O func57 (uN H) ?_)))
 rintro _ _ ⟨rfl, rfl⟩
 refine iP O (bY O (aW (gy O O) (jv O (fun h1 => ?_) (fun h1 => ?_))))
 ·(try simp only [aF] at h1)
  obtain ⟨hin, hpe⟩ := MW h1
  refine bY O (ig O (aC (fD results24 O ?_)))
  rw [hpe]
  exact ⟨by simp [dw.qC, dw.wz, hin], by rw [show s.wz k = s from by simp [dw.qC, dw.wz, hin]]; exact H⟩
 ·(try simp only [aF] at h1)
  have hin := I9 h1
  refine iy (aO (aO ?_))
  obtain ⟨Ap, Aq, Ar, Au, Aw, Az, AA, AB, yE, xk, xq, xu, xw, xA, xB, xC, xE, xG, xH, xI, jf, dX, nG, kF⟩ := (H).Ox
  obtain ⟨hv9, hk9, _⟩ := (kF.f7).hist
  have hLl : s.c.L.length ≤ 1024 := by obtain ⟨a, c, xs, f, t, h1, h2, h3, h4, h5, h6, h7, hc1, hc2, hl, H1⟩ := (kF.f2).buf; exact h4
  have hcl := hk9.1
  refine aA (bT O (aW (fG O O) (mX O (fun h2 => ?_) (fun h2 => ?_))))
  ·(try simp only [aF] at h2)
   have hbad : k < 0 ∨ (s.hl.length : Int) < k := .inl h2
   refine dF (dF (dF (dF (dF (dF (dF (nZ O O (jd (GV (mP O (aC (fD results24 O ?_))))))))))))
   have hE : s.qC k = 6 := by unfold dw.qC; rw [if_pos hin, if_pos (by omega)]
   have PD := kF.f11.f11.f11.f11.f11.f11.f11.f11.f11.f11.f11
   have MK := V.jX (s := s) jf dX PD
   exact ⟨by rw [hE], by unfold dw.wz; rw [if_neg (by rw [hE]; decide)]; exact MK⟩
  ·(try simp only [aF] at h2)
   refine bW (bT O (bW (bT O (bW (dO O (bW (bn 11 ah O sizeOf54 O (bW (fB lu O (kF).get.2 O (bW (fE O func60 (ru kF.f7) ?_)))))))))))
   rintro _ w6 ⟨rfl, H6⟩
   refine bW (aW (iT O O) (kX O O (jv O (fun h3 => ?_) (fun h3 => ?_))))
   ·(try simp only [aF] at h3)
    have aiA := h3
    refine mP O (aC (fD results24 O ?_))
    have hE : s.qC k = 6 := by unfold dw.qC; rw [if_pos hin, if_pos (by omega)]
    have Ho8 := H6.f11.f11.f11.f11.f5.f11.f11.f11.f11.f11.f11
    have VT := V.jX (s := s) jf dX Ho8
    exact ⟨by rw [hE], by unfold dw.wz; rw [if_neg (by rw [hE]; decide)]; exact VT⟩
   ·(try simp only [aF] at h3)
    have hgood : ¬ (k < 0 ∨ (s.hl.length : Int) < k) := by have h9 := h3; omega
    refine iy (aO ?_)
    have hsz : (dR s.hl s.c.tx s.c.place).size ≤ 16384 := qB hk9.2.2.2.2.2 jf.1.2.2 _
    have hsk : (dR s.hl s.c.tx k).size ≤ 16384 := qB hk9.2.2.2.2.2 jf.1.2.2 _
    have VQ : s.pK.size ≤ 16384 := J7 jf.1 hk9.2.2.2.2.2 hLl
    unfold dw.pK at VQ
    have hb1 := vH (Ep s.hl s.c.tx s.c.place s.c.L)
    have hb2 := vH (dR s.hl s.c.tx k)
    have hb3 := oq (Ep s.hl s.c.tx s.c.place s.c.L)
    have hb4 := oq (dR s.hl s.c.tx k)
    refine aA (bT O (fE O func61 (KW H6.f6.f6.f5.f5 (by assumption) (by assumption) (by assumption)) ?_))
    rintro _ w10 ⟨rfl, sF⟩
    refine iY (rE sF dU bf bD O (by omega)) ?_
    rintro l11 Iq sG
    refine fE O func38 (DT sG (by assumption) (fun W HW => (HW).jh) (by assumption) (by omega)) ?_
    rintro u12 w12 tN
    refine iP O ?_
    refine rU [(0, _), (1, _)] (fun (u : Value) => [(6, u)]) (fun (u : Value) W => V w0 W (jR 21 .i32 u (s.rJ k) • jq e s • F)) rP ?_ ?_
    ·rintro u Qz HJ
     dsimp only [List.cons_append, List.nil_append]
     refine aO (bY O (aW (jJ ((HJ).aN) ay O) (aW (iT O O) (jv O (fun h4 => ?_) (fun h4 => ?_)))))
     ·(try simp only [aF] at h4)
      have hE : s.qC k = 6 := by have h9 := h4; unfold dw.qC; rw [if_pos hin, if_neg hgood, if_pos (by omega)]
      refine mP O (aC (fD results24 O ?_))
      exact ⟨by rw [hE], by unfold dw.wz; rw [if_neg (by rw [hE]; decide)]; exact HJ.right⟩
     ·(try simp only [aF] at h4)
      have hE : s.qC k = 0 := by have h9 := h4; unfold dw.qC; rw [if_pos hin, if_neg hgood, if_neg (by omega)]
      have hshort : (s.rJ k).length ≤ 1024 := by have h9 := h4; omega
      refine iy (bY O (fE O func59 (sW HJ.f2) ?_))
      rintro _ TL Dh
      obtain ⟨t, ht, HT⟩ : ∃ t, s.fM false = t ∧ V w0 TL (jq e t • jR 21 .i32 u (s.rJ k) • F) := ⟨_, rfl, Dh⟩
      obtain ⟨hfh, hft, hfp, hfL⟩ := OT s false
      rw [ht] at hfh hft hfp hfL
      obtain ⟨Ap, Aq, Ar, Au, Aw, Az, AA, AB, yE, xk, xq, xu, xw, xA, xB, xC, xE, xG, xH, xI, jf, dX, nG, kF⟩ := (HT).Ox
      have hR2 : vP t.c.L := by rw [hfL]; exact hR
      have hsz2 : (dR t.hl t.c.tx t.c.place).size ≤ 16384 := by rw [hfh, hft, hfp]; exact qB hk9.2.2.2.2.2 (hft ▸ jf.1.2.2) _
      refine rV ?_
      have abF := kF.drew
      have qN := V.kp (abF.f7.right.f11.f11.f11.f11.f11.f11.f11.f11.f11.f11.f11)
      refine uU [4, 7, 12, 15] qN O (gQ 0 O qN O (jQ 1 O qN O (fQ 2 O qN 0 ah O aS O (fQ 3 O qN 2 aK O lK O (iO 4 O qN (fun W hW => jT jr O ((Kp.h hW)).get.2 O) (jQ 5 O qN O (fQ 6 O qN 1 fF O sizeOf128 O (iO 7 O qN (fun W hW => jT oV O ((Kp.h hW).f4).get.2 O) (gQ 8 O qN O (jQ 9 O qN O (fQ 10 O qN 0 ah O aS O (fQ 11 O qN 2 aK O lK O (iO 12 O qN (fun W hW => jT jr O ((Kp.h hW)).get.2 O) (jQ 13 O qN O (fQ 14 O qN 0 fF O aj O (iO 15 O qN (fun W hW => jT aB O ((Kp.h hW).f4).get.2 O) (gQ 16 O qN O (lU 17 O (wY O func61 (KW abF.f7.f6.f6.f5.f5 (by assumption) (by assumption) (by assumption))) ?_))))))))))))))))))
      rintro _ w16 ⟨rfl, yj⟩
      have IZ := V.kp (yj.f12.f12.f12.f12.f12.f12.f12.f12.f12.f12.f12.f12)
      refine dZ IZ (fun W hW => (Kp.h hW).f5.right.f11.f11.f11.f11.f11.f11.f10.f10.f11.f11.f11) ?_
      refine gU 18 O (by kernel_rfl) (CP yj.f4 oV aB O O O) ?_
      rintro _ w17 EH
      have Gt := V.kp (EH.f12.f12.f12.f12.f12.f12.f12.f12.f12.f12.f12.f12)
      refine fH Gt (by kernel_rfl) ?_
      refine qj (aZ (bY O (dO O (bn 0 ah O aS O (bn 2 aK O lK O (fB jr O (EH.f2).get.2 O (mJ O O (bn 0 fF O aj O (aI (st2 0 EH.f4 aj) ?_)))))))))
      rintro _ ZN EM
      refine ql O (bT O (fE O func63 (KF EM (fun W HW => (HW.f12).aN) hshort) ?_))
      rintro _ ZO ⟨p19, rfl, DY⟩
      refine bT O (sD O O (sD O O (dO O (bn 0 ah O aS O (bn 0 aK O oh O (aI (gV 0 DY.f4 oh) ?_))))))
      rintro _ YT EI
      refine ql O (mJ O O (bn 32 ah O aQ O (aI (gV 32 EI aQ) ?_)))
      rintro _ YU wG
      refine dO O (bn 0 ah O aS O (bn 10 aK O aQ O (aI (gV 10 wG aQ) ?_)))
      rintro _ w22 IQ
      refine jd (mP O (fD results24 O ?_))
      have hut := (IQ.f8).abE k
      have aez : t.pK.size ≤ 16384 := J7 jf.1 (hfh ▸ hk9.2.2.2.2.2) (by rw [hfL]; exact hLl)
      have HQ := IQ.f5.right.f12.right.f11.f11.f11.f11.f9.f11.f10.f10.f11.f11.f11
      rw [abD] at HQ
      exact ⟨by rw [hE], by unfold dw.wz; rw [if_pos hE]; dsimp only; rw [ht]; exact V.jX (s := { t with whole := false, c := { t.c with tx := sV t.c.tx t.c.place (some t.pK), place := k, L := s.rJ k, pt := (s.rJ k).length, mark := -1, run := false } }) (Ym jf (ht ▸ Zk s false) (hfh ▸ hgood) aez hut) dX HQ⟩
    ·skip
     refine bY O (mJ O O (bn 0 ah O aS O (bn 2 aK O lK O (fB jr O (tN.f3).get.2 O (dO O (bn 0 fF O aj O (fB aB O (tN.f5).get.2 O (aW (gy O O) (jv O (fun h5 => ?_) (fun h5 => ?_))))))))))
     ·(try simp only [aF] at h5)
      have hkp : ¬ k = s.c.place := h5
      refine aA (jy O O (fE O func62 (vZ tN.f7.f7.f7.f6) ?_))
      rintro _ YV ⟨rfl, DC⟩
      refine iY (rE DC dU bf bD O (by omega)) ?_
      rintro l24 w24 MN
      refine fE O func38 (DT MN (by assumption) (fun W HW => (HW).jh) (by assumption) (by omega)) ?_
      rintro u25 w25 NZ
      refine iC O ?_
      have aeA := NZ.f15.f15.f15.f15.f10.f15.f11.f11.f15.f15.f13
      have Zl := V.jX (s := s) jf dX aeA
      refine bZ ?_
      refine gB (_) oO rP (by (try dsimp only); exact by unfold dw.rJ; first | (rw [if_pos hkp]; exact Zl.f3.right.f3.right.f3.right.f2) | (rw [if_neg hkp]; exact Zl.f3.right.f3.right.f3.right.f2))
     ·(try simp only [aF] at h5)
      have hkp : k = s.c.place := by have h9 := h5; simpa using h9
      have ahJ := tN.f13.f13.f13.f13.f11.f13.f12.f12.f13.f13.f13
      have af5 := V.jX (s := s) jf dX ahJ
      refine dS ?_
      refine gB (_) oO rP (by (try dsimp only); exact by unfold dw.rJ; first | (rw [if_pos hkp]; exact af5.f3.right.f2) | (rw [if_neg hkp]; exact af5.f3.right.f2))
end
end Go.Proofs.YtgofgnlkpeghcaaGreatDoor
end
section
namespace Go.Proofs.YtgofgnlkpeghcaaGreatDoor
open Go.RowKit
def HY (l p : List Int) (i : Nat) : Bool := decide (i + p.length ≤ l.length ∧ (l.drop i).take p.length = p)
def ug (l p : List Int) : Nat → Int
  | 0 => -1
  | n + 1 => if HY l p n then n else ug l p n
def qO (l p : List Int) : Nat → Nat → Int
  | 0, _ => -1
  | n + 1, i => if HY l p i then i else qO l p n (i + 1)
def qE (l p : List Int) : Int := (l.length : Int) - p.length
def jg (l p : List Int) (from_ : Int) (back : Bool) : Int :=
  if back then ug l p ((min from_ (qE l p)) + 1).toNat else qO l p (qE l p - max from_ 0 + 1).toNat (max from_ 0).toNat
def um (ls : List (List Int)) (place at_ : Int) (p : List Int) (back : Bool) (i : Nat) : Int :=
  jg (ls.getD i []) p (if (i : Int) = place then at_ else if back then ((ls.getD i []).length : Int) else 0) back
def GI (ls : List (List Int)) (place at_ : Int) (p : List Int) : Nat → Int × Int × Bool
  | 0 => (0, 0, false)
  | n + 1 => if 0 ≤ um ls place at_ p true n then (n, um ls place at_ p true n, true) else GI ls place at_ p n
def findF (ls : List (List Int)) (place at_ : Int) (p : List Int) : Nat → Nat → Int × Int × Bool
  | 0, _ => (0, 0, false)
  | n + 1, i => if 0 ≤ um ls place at_ p false i then (i, um ls place at_ p false i, true) else findF ls place at_ p n (i + 1)
def lq (ls : List (List Int)) (place at_ : Int) (p : List Int) (back : Bool) : Int × Int × Bool :=
  if place < 0 ∨ (ls.length : Int) ≤ place ∨ p.length = 0 then (0, 0, false) else if back then GI ls place at_ p (place + 1).toNat else findF ls place at_ p ((ls.length : Int) - place).toNat place.toNat
theorem AP {l p : List Int} {i : Nat} : HY l p i = true ↔ i + p.length ≤ l.length ∧ (l.drop i).take p.length = p := by unfold HY; simp
theorem OU {l p : List Int} {i : Int} (h : 0 ≤ i) (ha : HY l p i.toNat = true) : ug l p (i + 1).toNat = i := by
  obtain ⟨n, rfl⟩ := Int.eq_ofNat_of_zero_le h
  rw [show ((n : Int) + 1).toNat = n + 1 from by omega]
  rw [Int.toNat_natCast] at ha
  unfold ug; rw [if_pos ha]
theorem QS {l p : List Int} {i : Int} (h : 0 ≤ i) (ha : ¬ HY l p i.toNat = true) : ug l p (i + 1).toNat = ug l p (i - 1 + 1).toNat := by
  obtain ⟨n, rfl⟩ := Int.eq_ofNat_of_zero_le h
  rw [show ((n : Int) + 1).toNat = n + 1 from by omega, show ((n : Int) - 1 + 1).toNat = n from by omega]
  rw [Int.toNat_natCast] at ha
  rw [ug, if_neg ha]
theorem Xd {l p : List Int} {i : Int} (h : ¬ 0 ≤ i) : ug l p (i + 1).toNat = -1 := by rw [show (i + 1).toNat = 0 from by omega]; rfl
theorem KY {l p : List Int} {i m : Int} (h : 0 ≤ i) (hm : i ≤ m) (ha : HY l p i.toNat = true) : qO l p (m - i + 1).toNat i.toNat = i := by
  obtain ⟨n, hn⟩ : ∃ n, (m - i + 1).toNat = n + 1 := ⟨(m - i).toNat, by omega⟩
  rw [hn, qO, if_pos ha]; omega
theorem OV {l p : List Int} {i m : Int} (h : 0 ≤ i) (hm : i ≤ m) (ha : ¬ HY l p i.toNat = true) : qO l p (m - i + 1).toNat i.toNat = qO l p (m - (i + 1) + 1).toNat (i + 1).toNat := by
  rw [show (m - i + 1).toNat = (m - (i + 1) + 1).toNat + 1 from by omega, qO, if_neg ha, show (i + 1).toNat = i.toNat + 1 from by omega]
theorem CS {l p : List Int} {i m : Int} (h : ¬ i ≤ m) : qO l p (m - i + 1).toNat i.toNat = -1 := by rw [show (m - i + 1).toNat = 0 from by omega]; rfl
theorem KZ (l p : List Int) : ∀ n, (ug l p n = -1 ∧ ∀ i, i < n → ¬ HY l p i = true) ∨ ∃ i, ug l p n = (i : Nat) ∧ i < n ∧ HY l p i = true ∧ ∀ j, i < j → j < n → ¬ HY l p j = true
  | 0 => .inl ⟨rfl, fun i h => absurd h (by omega)⟩
  | n + 1 => by
    by_cases h : HY l p n = true
    · exact .inr ⟨n, by rw [ug, if_pos h], by omega, h, fun j h1 h2 => absurd h2 (by omega)⟩
    · have e : ug l p (n + 1) = ug l p n := by rw [ug, if_neg h]
      rw [e]
      rcases KZ l p n with ⟨h1, h2⟩ | ⟨i, h1, h2, h3, h4⟩
      · exact .inl ⟨h1, fun i hi => (show i < n ∨ i = n from by omega).elim (h2 i) (fun c => c ▸ h)⟩
      · exact .inr ⟨i, h1, by omega, h3, fun j h5 h6 => (show j < n ∨ j = n from by omega).elim (h4 j h5) (fun c => c ▸ h)⟩
theorem Jj (l p : List Int) : ∀ n i, (qO l p n i = -1 ∧ ∀ j, i ≤ j → j < i + n → ¬ HY l p j = true) ∨ ∃ k, qO l p n i = (k : Nat) ∧ i ≤ k ∧ k < i + n ∧ HY l p k = true ∧ ∀ j, i ≤ j → j < k → ¬ HY l p j = true
  | 0, i => .inl ⟨rfl, fun j h1 h2 => absurd h2 (by omega)⟩
  | n + 1, i => by
    by_cases h : HY l p i = true
    · exact .inr ⟨i, by rw [qO, if_pos h], by omega, by omega, h, fun j h1 h2 => absurd h2 (by omega)⟩
    · have e : qO l p (n + 1) i = qO l p n (i + 1) := by rw [qO, if_neg h]
      rw [e]
      rcases Jj l p n (i + 1) with ⟨h1, h2⟩ | ⟨k, h1, h2, h3, h4, h5⟩
      · exact .inl ⟨h1, fun j h3 h4 => (show i + 1 ≤ j ∨ j = i from by omega).elim (fun c => h2 j c (by omega)) (fun c => c ▸ h)⟩
      · exact .inr ⟨k, h1, by omega, by omega, h4, fun j h6 h7 => (show i + 1 ≤ j ∨ j = i from by omega).elim (fun c => h5 j c h7) (fun c => c ▸ h)⟩
theorem SH (l p : List Int) (f : Int) : (jg l p f true = -1 ∧ ∀ i : Nat, (i : Int) ≤ f → ¬ HY l p i = true) ∨ ∃ i : Nat, jg l p f true = i ∧ (i : Int) ≤ f ∧ HY l p i = true ∧ ∀ j : Nat, i < j → (j : Int) ≤ f → ¬ HY l p j = true := by
  have hm : ∀ i : Nat, HY l p i = true → (i : Int) ≤ qE l p := fun i h => by have := (AP.1 h).1; unfold qE; omega
  have e : jg l p f true = ug l p ((min f (qE l p)) + 1).toNat := by unfold jg; rw [if_pos rfl]
  rw [e]
  rcases KZ l p ((min f (qE l p)) + 1).toNat with ⟨h1, h2⟩ | ⟨i, h1, h2, h3, h4⟩
  · exact .inl ⟨h1, fun i hi ha => h2 i (by have := hm i ha; omega) ha⟩
  · exact .inr ⟨i, h1, by omega, h3, fun j h5 h6 ha => h4 j h5 (by have := hm j ha; omega) ha⟩
theorem PW (l p : List Int) (f : Int) : (jg l p f false = -1 ∧ ∀ i : Nat, f ≤ (i : Int) → ¬ HY l p i = true) ∨ ∃ i : Nat, jg l p f false = i ∧ f ≤ (i : Int) ∧ HY l p i = true ∧ ∀ j : Nat, f ≤ (j : Int) → j < i → ¬ HY l p j = true := by
  have hm : ∀ i : Nat, HY l p i = true → (i : Int) ≤ qE l p := fun i h => by have := (AP.1 h).1; unfold qE; omega
  have e : jg l p f false = qO l p (qE l p - max f 0 + 1).toNat (max f 0).toNat := by unfold jg; rw [if_neg (by decide)]
  rw [e]
  rcases Jj l p (qE l p - max f 0 + 1).toNat (max f 0).toNat with ⟨h1, h2⟩ | ⟨k, h1, h2, h3, h4, h5⟩
  · exact .inl ⟨h1, fun i hi ha => h2 i (by omega) (by have := hm i ha; omega) ha⟩
  · exact .inr ⟨k, h1, by omega, h4, fun j h6 h7 ha => h5 j (by omega) h7 ha⟩
def findAt (ls : List (List Int)) (place at_ : Int) (p : List Int) (back : Bool) (i : Int) : Int × Int × Bool :=
  if back then GI ls place at_ p (i + 1).toNat else findF ls place at_ p ((ls.length : Int) - i).toNat i.toNat
theorem Ia {ls : List (List Int)} {place at_ i : Int} {p : List Int} {back : Bool} (h0 : 0 ≤ i) (h1 : i < ls.length) (h : 0 ≤ um ls place at_ p back i.toNat) : findAt ls place at_ p back i = (i, um ls place at_ p back i.toNat, true) := by
  obtain ⟨n, rfl⟩ := Int.eq_ofNat_of_zero_le h0
  rw [Int.toNat_natCast] at *
  cases back with
  | true => unfold findAt; rw [if_pos rfl, show ((n : Int) + 1).toNat = n + 1 from by omega, GI, if_pos h]
  | false => unfold findAt; rw [if_neg (by decide), Int.toNat_natCast, show ((ls.length : Int) - (n : Int)).toNat = ((ls.length : Int) - (n : Int)).toNat - 1 + 1 from by omega, findF, if_pos h]
theorem Bq {ls : List (List Int)} {place at_ i : Int} {p : List Int} {back : Bool} (h0 : 0 ≤ i) (h1 : i < ls.length) (h : ¬ 0 ≤ um ls place at_ p back i.toNat) : findAt ls place at_ p back i = findAt ls place at_ p back (i + if back then -1 else 1) := by
  obtain ⟨n, rfl⟩ := Int.eq_ofNat_of_zero_le h0
  rw [Int.toNat_natCast] at *
  cases back with
  | true => unfold findAt; rw [if_pos rfl, if_pos rfl, if_pos rfl, show ((n : Int) + 1).toNat = n + 1 from by omega, GI, if_neg h, show ((n : Int) + -1 + 1).toNat = n from by omega]
  | false =>
    unfold findAt
    rw [if_neg (by decide), if_neg (by decide), if_neg (by decide), Int.toNat_natCast, show ((ls.length : Int) - (n : Int)).toNat = ((ls.length : Int) - ((n : Int) + 1)).toNat + 1 from by omega, findF, if_neg h, show ((n : Int) + 1).toNat = n + 1 from by omega]
theorem zo {ls : List (List Int)} {place at_ i : Int} {p : List Int} {back : Bool} (h : ¬ (0 ≤ i ∧ i < ls.length)) (h1 : back = true → i < ls.length) (h2 : ¬ back = true → 0 ≤ i) : findAt ls place at_ p back i = (0, 0, false) := by
  cases back with
  | true => have := h1 rfl; unfold findAt; rw [if_pos rfl, show (i + 1).toNat = 0 from by omega]; rfl
  | false => have := h2 (by decide); unfold findAt; rw [if_neg (by decide), show ((ls.length : Int) - i).toNat = 0 from by omega]; rfl
theorem Jk {ls : List (List Int)} {place at_ : Int} {p : List Int} {i : Nat} {back : Bool} (hb : back = true) (h : (i : Int) = place) (ha : at_ < 0) : ¬ 0 ≤ um ls place at_ p back i := by
  subst hb
  unfold um; rw [if_pos h]
  rcases SH (ls.getD i []) p at_ with ⟨h1, _⟩ | ⟨k, h1, h2, _⟩
  · rw [h1]; omega
  · omega
theorem Jl {ls : List (List Int)} {place at_ : Int} {p : List Int} {i : Nat} {back : Bool} (hb : back = false) (h : (i : Int) = place) (ha : ((ls.getD i []).length : Int) < at_) : ¬ 0 ≤ um ls place at_ p back i := by
  subst hb
  unfold um; rw [if_pos h]
  rcases PW (ls.getD i []) p at_ with ⟨h1, _⟩ | ⟨k, h1, h2, h3, _⟩
  · rw [h1]; omega
  · have := (AP.1 h3).1; omega
end Go.Proofs.YtgofgnlkpeghcaaGreatDoor
end
section
namespace Go.Proofs.YtgofgnlkpeghcaaGreatDoor
open Go.RowKit Go.Lib
section
variable {P : Program} {N : Sh} {Q : Exit → Act → World → Prop} {L : List (Nat × Value)} {w : World}
theorem NP.noGoto (h : NP Q) : NP (Exit.noGoto Q) := fun c a w => h c a w
theorem abG {c : Code} (h : WC P N c (Exit.noGoto Q) L w) (hr : N.ro = none := by rfl) : WC P N (.scope c) Q L w := fun np a ha => by
  have h1 := h np.noGoto a ha
  rw [hr] at h1 ⊢
  exact wpIn_wide.2 (wp_scope_straight (wpIn_wide.1 h1))
theorem abH {l : Nat} (h : WQ N Q .normal L w) : WC P N (.label l) Q L w := fun np a ha => wpIn_label (h np a ha)
theorem vI (h : WQ N Q .ret L w) : WQ N (Exit.noGoto Q) .ret L w := fun np a ha => h (fun c a w => np c a w) a ha
end
def sb (s : ByteArray) (i : Nat) : Int := ((s.data.toList.getD i 0).toNat : Nat)
section
variable {P : Program} {L : List (Nat × Value)} {w w0 : World} {ty : TypeId} {x y : Operand} {F : HP}
def aiB (s : ByteArray) (k : Nat) : Value := if k < s.size then .tuple #[.bool true, .int .i64 k, .int .i32 (sb s k)] else .tuple #[.bool false]
end
end Go.Proofs.YtgofgnlkpeghcaaGreatDoor
end
