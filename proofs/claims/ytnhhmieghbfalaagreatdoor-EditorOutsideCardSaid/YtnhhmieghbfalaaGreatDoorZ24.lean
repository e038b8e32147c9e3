import Derived.Test.YtnhhmieghbfalaaGreatDoorZ4
import Derived.Test.YtnhhmieghbfalaaGreatDoorZ23
import Derived.Test.YtnhhmieghbfalaaGreatDoorZ5
import Derived.Laws.IdiomStrings
import Derived.Test.YtnhhmieghbfalaaGreatDoorZ22
import Derived.Test.YtnhhmieghbfalaaGreatDoorZ16
import Derived.Test.YtnhhmieghbfalaaGreatDoorZ14
import Derived.Test.YtnhhmieghbfalaaGreatDoorZ21
set_option linter.unusedSimpArgs false
set_option linter.unusedVariables false
/- Texts of mine, joined, their names in short: Utf5 StrB EdG EdGo REdG REdS. -/
section
namespace Go.Proofs.YtnhhmieghbfalaaGreatDoor
open Go.RowKit
open _root_.Go.Proofs.Tryz
theorem Ho {b : List Int} (h : Jv b) (n : Nat) : Jv (b.drop n) := fun x hx => h x (List.mem_of_mem_drop hx)
theorem acY {b : List Int} (h : Jv b) (n : Nat) : Jv (b.take n) := fun x hx => h x (List.mem_of_mem_take hx)
theorem TI {b : List Int} (h : yC b = true) : (wX b).1 = KE (b.take (nT b).2) (b.take (nT b).2).length ∧ (wX b).2 = (nT b).2 := by
  have hn := EL h
  have hl : (b.take (nT b).2).length = (nT b).2 := by rw [List.length_take]; omega
  unfold wX
  rw [if_pos h, hl]
  refine ⟨?_, rfl⟩
  have := adB (b := b.take (nT b).2) (c := b.drop (nT b).2) (n := (nT b).2) hn.1 (by rw [hl]; exact Nat.le_refl _) hn.2.2.1
  rwa [List.take_append_drop] at this
theorem JW {b : List Int} (h : yC b = false) : wX b = (65533, 1) := by unfold wX; rw [if_neg (by simp [h])]
theorem ae8 {b : List Int} (h : (nT b).1 = (nT b).2) (h2 : 0 < (nT b).2) : yC b = true := by unfold yC; simp [h, h2]
theorem Vy {b : List Int} (h : ¬ ((nT b).1 = (nT b).2 ∧ 0 < (nT b).2)) : yC b = false := by unfold yC; simpa using h
theorem JX (l : List Int) (k : Nat) (h : k < l.length) : y9 (l.take (k + 1)) = y9 (l.take k) ++ Lib.encodeRuneZ (l.getD k 0) := by
  unfold y9
  rw [List.take_succ_eq_append_getElem h, List.flatMap_append, List.getD_eq_getElem?_getD, List.getElem?_eq_getElem h]
  simp
theorem Vz (l : List Int) : (y9 l).length ≤ 4 * l.length := by
  induction l with
  | nil => simp [y9]
  | cons x r ih =>
    have h1 : y9 (x :: r) = Lib.encodeRuneZ x ++ y9 r := by simp [y9]
    have := (Lib.encodeRuneZ_length x).2
    rw [h1, List.length_append, List.length_cons]
    omega
theorem ab2 {l : List Int} (k : Nat) : (y9 (l.take k)).length ≤ 4 * l.length := by
  have := Vz (l.take k)
  rw [List.length_take] at this
  omega
def jd (l : List Int) : Prop := ∀ x ∈ l, -2147483648 ≤ x ∧ x < 2147483648
theorem ae9 {l : List Int} (h : jd l) {k : Nat} (hk : k < l.length) : -2147483648 ≤ l.getD k 0 ∧ l.getD k 0 < 2147483648 := by
  rw [List.getD_eq_getElem?_getD, List.getElem?_eq_getElem hk]; exact h _ (List.getElem_mem hk)
section
variable {w0 w : World} {F : HP} {v : Value} {b l : List Int} {r x y : Int}
theorem OQ (H : V w0 w F) (hT : MO w0) (hv : jZ w0 F .u8 v b) (hb : Jv b) (hL : b.length ≤ 17179869184) : iK prog 161 #[v] w fun v' w' => V w0 w' (kF 21 .i32 v' (yD b) • F) := by
 refine jl func161 ntmps161 ?_
 refine kG O (kG O (aI (bK ?_)))
 refine jh [] (fun (⟨v2, u, n⟩ : Value × Value × Nat) => [(0, v2), (3, u)]) (fun (⟨v2, u, n⟩ : Value × Value × Nat) W => ∃ b2 l2, (jZ w0 F .u8 v2 b2 ∧ Jv b2 ∧ l2 ++ yD b2 = yD b ∧ l2.length + b2.length ≤ b.length ∧ b2.length = n) ∧ V w0 W (kF 21 .i32 u l2 • F)) (fun (⟨v2, u, n⟩ : Value × Value × Nat) => n) ((v, .slice none 0 0, b.length)) (Sub.nil _) vV ⟨b, [], ⟨hv, hb, O, by simp, O⟩, (H).iV none⟩ ?_
 rintro ⟨v2, u, n⟩ w1 ⟨b2, l2, ⟨hv2, hb2, hr2, hl2, hn2⟩, HL⟩
 dsimp only [List.cons_append, List.nil_append]
 refine aI (bT O (aT (kT (hv2 _ (HL.right)) bH O) (aT (fZ O O) (jo O (fun h1 => ?_) (fun h1 => ?_)))))
 ·(try simp only [aG] at h1)
  refine gX (bK (aI ?_))
  have hne : b2 ≠ [] := by rintro rfl; simp at *
  have hd := Jw hne
  refine aF (cO O (fH O func185 (aa2 HL hT (fun W HW => hv2 _ (HW.right)) (by assumption) (by assumption)) ?_))
  rintro _ w2 ⟨rfl, H2⟩
  refine cO O (xY O O (xY O O (lg O (iU O (bT O (cO O (jT (jV (k := .i32) (l := [_]) H2 aB jU zeroValue21 O O O (by decide)) ?_)))))))
  rintro l3 w3 H3
  refine jT (eF H3.f2 ((H3).aJ) aB O5 O O (by first | omega | (simp only [List.length_append, List.length_nil, List.length_cons]; omega) | (simp; omega)) (by first | omega | (simp only [List.length_append, List.length_nil, List.length_cons]; omega) | (simp; omega))) ?_
  rintro l4 w4 H4
  try simp only [List.nil_append] at H4
  refine iU O (aF (ku O O (aT (rP (hv2 _ (H4.right.right)) bH gZ O O O (by omega)) ?_)))
  refine lg O (dJ (aS ?_))
  refine fG (_, _, _) vV (Sub.nil _) (by (try dsimp only); exact ⟨_, _, ⟨fun W HW => mP.from (hv2 W HW) hd.2.1, Ho hb2 _, by rw [← hr2, Dl hne, List.append_assoc]; rfl, by rw [List.length_append, List.length_drop]; simp only [List.length_cons, List.length_nil]; omega, O⟩, H4.f2.right⟩) ?_
  ·(try dsimp only); rw [List.length_drop]; omega
 ·(try simp only [aG] at h1)
  refine iZ (bC (bC (dK (aZ (bT O (iJ O (dO results161 O ?_)))))))
  obtain rfl : b2 = [] := List.eq_nil_of_length_eq_zero (by omega)
  rw [LJ, List.append_nil] at hr2
  subst hr2
  exact HL
theorem Lr (H : V w0 w F) (hv : jZ w0 F .u8 v b) (hb : Jv b) (hL : b.length ≤ 17179869184) : iK prog 165 #[v] w fun v' w' => V w0 w' (kF 21 .i32 v' (yD b) • F) := by
 refine jl func165 ntmps165 ?_
 refine kG O (kG O (aI (bK ?_)))
 refine jh [] (fun (⟨v2, u, n⟩ : Value × Value × Nat) => [(0, v2), (3, u)]) (fun (⟨v2, u, n⟩ : Value × Value × Nat) W => ∃ b2 l2, (jZ w0 F .u8 v2 b2 ∧ Jv b2 ∧ l2 ++ yD b2 = yD b ∧ l2.length + b2.length ≤ b.length ∧ b2.length = n) ∧ V w0 W (kF 21 .i32 u l2 • F)) (fun (⟨v2, u, n⟩ : Value × Value × Nat) => n) ((v, .slice none 0 0, b.length)) (Sub.nil _) vV ⟨b, [], ⟨hv, hb, O, by simp, O⟩, (H).iV none⟩ ?_
 rintro ⟨v2, u, n⟩ w1 ⟨b2, l2, ⟨hv2, hb2, hr2, hl2, hn2⟩, HL⟩
 dsimp only [List.cons_append, List.nil_append]
 refine aI (bT O (aT (kT (hv2 _ (HL.right)) bH O) (aT (fZ O O) (jo O (fun h1 => ?_) (fun h1 => ?_)))))
 ·(try simp only [aG] at h1)
  refine gX (bK (aI ?_))
  have hne : b2 ≠ [] := by rintro rfl; simp at *
  have hd := Jw hne
  refine aF (cO O (fH O func188 (ae6 HL (fun W HW => hv2 _ (HW.right)) (by assumption)) ?_))
  rintro _ w2 ⟨rfl, H2⟩
  refine cO O (xY O O (xY O O (lg O (iU O (bT O (cO O (aT (fA O O) (nS O (fun h2 => ?_) (fun h2 => ?_)))))))))
  ·(try simp only [aG] at h2)
   refine bJ (cO O (bJ (aT (fZ O O) (mQ O O (jo O (fun h3 => ?_) (fun h3 => ?_))))))
   ·(try simp only [aG] at h3)
    refine aI ?_
    have hw : yC b2 = true := ae8 (by omega) (by omega)
    have hwl := EL hw
    have hlt : (b2.take (((nT b2).2 : Nat) : Int).toNat).length = (nT b2).2 := by rw [Int.toNat_natCast, List.length_take]; omega
    refine aF (ku O O (cO O (aT (rP (hv2 _ (H2.right)) bH gZ O O O (by omega)) ?_)))
    refine fH O func189 (acX H2 (fun W HW => mP.upto (hv2 _ (HW.right)) (by omega)) (acY hb2 _) (by rw [hlt]; omega)) ?_
    rintro _ w3 ⟨rfl, H3⟩
    rw [show KE (b2.take (((nT b2).2 : Nat) : Int).toNat) (b2.take (((nT b2).2 : Nat) : Int).toNat).length = (wX b2).1 from (TI hw).1.symm]
    refine jT (jV (k := .i32) (l := [_]) H3 aB jU zeroValue21 O O O (by decide)) ?_
    rintro l4 w4 H4
    refine jT (eF H4.f2 ((H4).aJ) aB O5 O O (by first | omega | (simp only [List.length_append, List.length_nil, List.length_cons]; omega) | (simp; omega)) (by first | omega | (simp only [List.length_append, List.length_nil, List.length_cons]; omega) | (simp; omega))) ?_
    rintro l5 w5 H5
    try simp only [List.nil_append] at H5
    refine iU O (aF (ku O O (aT (rP (hv2 _ (H5.right.right)) bH gZ O O O (by omega)) ?_)))
    refine lg O ?_
    have hcut : jZ w0 F .u8 (xI 1 (((nT b2).2 : Nat) : Int).toNat ((b2.length : Nat) : Int).toNat v2) (b2.drop (wX b2).2) := fun W HW => by rw [(TI hw).2]; exact mP.from (hv2 W HW) hwl.2.1
    have hrun : (l2 ++ [(wX b2).1]) ++ yD (b2.drop (wX b2).2) = yD b := by rw [← hr2, Dl hne, List.append_assoc]; rfl
    refine dJ (aS ?_)
    refine fG (_, _, _) vV (Sub.nil _) (by (try dsimp only); exact ⟨_, _, ⟨hcut, Ho hb2 _, hrun, by rw [List.length_append, List.length_drop]; simp only [List.length_cons, List.length_nil]; omega, O⟩, H5.f2.right⟩) ?_
    ·(try dsimp only); rw [List.length_drop]; omega
   ·(try simp only [aG] at h3)
    refine aI ?_
    have hw : yC b2 = false := Vy (by omega)
    refine aF (cO O (jT (jV (k := .i32) (l := [65533]) H2 aB jU zeroValue21 O O O (by decide)) ?_))
    rintro l6 w6 H6
    refine jT (eF H6.f2 ((H6).aJ) aB O5 O O (by first | omega | (simp only [List.length_append, List.length_nil, List.length_cons]; omega) | (simp; omega)) (by first | omega | (simp only [List.length_append, List.length_nil, List.length_cons]; omega) | (simp; omega))) ?_
    rintro l7 w7 H7
    try simp only [List.nil_append] at H7
    refine iU O (aF (cO O (aT (rP (hv2 _ (H7.right.right)) bH gZ O O O (by omega)) ?_)))
    refine lg O ?_
    have hcut : jZ w0 F .u8 (xI 1 (1 : Int).toNat ((b2.length : Nat) : Int).toNat v2) (b2.drop (wX b2).2) := fun W HW => by rw [JW hw]; exact mP.from (hv2 W HW) (by omega)
    have hrun : (l2 ++ [65533]) ++ yD (b2.drop (wX b2).2) = yD b := by rw [← hr2, Dl hne, List.append_assoc, JW hw]; rfl
    refine dJ (aS ?_)
    refine fG (_, _, _) vV (Sub.nil _) (by (try dsimp only); exact ⟨_, _, ⟨hcut, Ho hb2 _, hrun, by rw [List.length_append, List.length_drop]; simp only [List.length_cons, List.length_nil]; omega, O⟩, H7.f2.right⟩) ?_
    ·(try dsimp only); rw [List.length_drop]; omega
  ·(try simp only [aG] at h2)
   refine dB (dB (kP O O (iR (yh (aI ?_)))))
   have hw : yC b2 = false := Vy (by omega)
   refine aF (cO O (jT (jV (k := .i32) (l := [65533]) H2 aB jU zeroValue21 O O O (by decide)) ?_))
   rintro l8 w8 H8
   refine jT (eF H8.f2 ((H8).aJ) aB O5 O O (by first | omega | (simp only [List.length_append, List.length_nil, List.length_cons]; omega) | (simp; omega)) (by first | omega | (simp only [List.length_append, List.length_nil, List.length_cons]; omega) | (simp; omega))) ?_
   rintro l9 w9 H9
   try simp only [List.nil_append] at H9
   refine iU O (aF (cO O (aT (rP (hv2 _ (H9.right.right)) bH gZ O O O (by omega)) ?_)))
   refine lg O ?_
   have hcut : jZ w0 F .u8 (xI 1 (1 : Int).toNat ((b2.length : Nat) : Int).toNat v2) (b2.drop (wX b2).2) := fun W HW => by rw [JW hw]; exact mP.from (hv2 W HW) (by omega)
   have hrun : (l2 ++ [65533]) ++ yD (b2.drop (wX b2).2) = yD b := by rw [← hr2, Dl hne, List.append_assoc, JW hw]; rfl
   refine dJ (aS ?_)
   refine fG (_, _, _) vV (Sub.nil _) (by (try dsimp only); exact ⟨_, _, ⟨hcut, Ho hb2 _, hrun, by rw [List.length_append, List.length_drop]; simp only [List.length_cons, List.length_nil]; omega, O⟩, H9.f2.right⟩) ?_
   ·(try dsimp only); rw [List.length_drop]; omega
 ·(try simp only [aG] at h1)
  refine iZ (bC (bC (dK (aZ (bT O (iJ O (dO results165 O ?_)))))))
  obtain rfl : b2 = [] := List.eq_nil_of_length_eq_zero (by omega)
  rw [LJ, List.append_nil] at hr2
  subst hr2
  exact HL
theorem acZ (H : V w0 w F) (hv : jZ w0 F .i32 v l) (hl : jd l) (hL : l.length ≤ 17179869184) : iK prog 186 #[v] w fun v' w' => V w0 w' (kF 5 .u8 v' (y9 l) • F) := by
 refine jl func186 ntmps186 ?_
 refine kG O (kG O (aI (bT O (aT (kT (hv _ (H)) aB O) (cO O (iR (bK ?_)))))))
 refine jh [(6, _), (7, _)] (fun (⟨k, u⟩ : Nat × Value) => [(8, .int .i64 (k : Int)), (3, u)]) (fun (⟨k, u⟩ : Nat × Value) W => k ≤ l.length ∧ V w0 W (kF 5 .u8 u (y9 (l.take k)) • F)) (fun (⟨k, u⟩ : Nat × Value) => l.length - k) ((0, .slice none 0 0)) vV vV ⟨by omega, (H).iV none⟩ ?_
 rintro ⟨k, u⟩ w1 ⟨hk, HL⟩
 dsimp only [List.cons_append, List.nil_append]
 refine kQ (aT (fJ O O) (uV (dw O (fun h1 => ?_) (fun h1 => ?_))))
 ·(try simp only [aG] at h1)
  refine gX (aI (bK (aI ?_)))
  have hkl : k < l.length := by omega
  have hbb := ab2 (l := l) k
  have hrr := ae9 hl hkl
  refine aF ?_
  obtain ⟨bv, ov, cv, ev⟩ := mP.qX (hv _ (HL.right)) (by omega)
  cases ev
  refine aT (dP aB jU O O (by omega)) ?_
  refine aT (fB (dG fO O) O (by first | exact mP.yc (hv _ (HL.right)) (by omega) | exact mP.I8 (hv _ (HL.right)) (by omega) | exact mP.Ib (hv _ (HL.right)) (by omega))) ?_
  refine vI O (bT O (fH O func196 (aht) ?_))
  rintro _ _ ⟨rfl, rfl⟩
  refine aT (jG O) (jo O (fun h2 => ?_) (fun h2 => ?_))
  ·(try simp only [aG] at h2)
   have henc : Lib.encodeRuneZ (l.getD k 0) = Lib.encodeRuneZ 65533 := by rw [OO (by simpa using h2)]; rfl
   refine aF (iU O (aF (ku O O (fH O func197 (NT HL (by omega) (by omega)) ?_))))
   rintro u3 w3 H3
   refine lg O (dJ (aS (aZ (aF (aT (gY O O (by omega)) (cO O (dJ ?_)))))))
   refine fG ((k + 1, u3)) ?_ ?_ ?_ ?_
   ·exact vV
   ·exact vV
   ·(try dsimp only)
    first | done | exact ⟨by omega, by rw [JX l k hkl]; first | exact H3 | (rw [henc]; exact H3)⟩
   ·(try dsimp only); omega
  ·(try simp only [aG] at h2)
   refine gX (aF (ku O O (fH O func197 (NT HL (by omega) (by omega)) ?_)))
   rintro u4 w4 H4
   refine lg O (dJ (aS (aZ (aF (aT (gY O O (by omega)) (cO O (dJ ?_)))))))
   refine fG ((k + 1, u4)) ?_ ?_ ?_ ?_
   ·exact vV
   ·exact vV
   ·(try dsimp only)
    first | done | exact ⟨by omega, by rw [JX l k hkl]; first | exact H4 | (rw [henc]; exact H4)⟩
   ·(try dsimp only); omega
 ·(try simp only [aG] at h1)
  refine iZ (bC (bC (dK (aZ (bT O (iJ O (dO results186 O ?_)))))))
  obtain rfl : k = l.length := by omega
  rw [List.take_length] at HL
  exact HL
theorem UA (H : V w0 w F) (hv : jZ w0 F .i32 v l) (hl : jd l) (hL : l.length ≤ 17179869184) : iK prog 187 #[v] w fun v' w' => V w0 w' (kF 5 .u8 v' (y9 l) • F) := by
 refine jl func187 ntmps187 ?_
 refine kG O (kG O (aI (kG O (bK ?_))))
 refine jh [(0, _)] (fun (⟨k, u⟩ : Nat × Value) => [(4, .int .i64 (k : Int)), (3, u)]) (fun (⟨k, u⟩ : Nat × Value) W => k ≤ l.length ∧ V w0 W (kF 5 .u8 u (y9 (l.take k)) • F)) (fun (⟨k, u⟩ : Nat × Value) => l.length - k) ((0, .slice none 0 0)) rJ vV ⟨by omega, (H).iV none⟩ ?_
 rintro ⟨k, u⟩ w1 ⟨hk, HL⟩
 dsimp only [List.cons_append, List.nil_append]
 refine aI (bT O (cO O (aT (kT (hv _ (HL.right)) aB O) (aT (fJ O O) (jo O (fun h1 => ?_) (fun h1 => ?_))))))
 ·(try simp only [aG] at h1)
  refine gX (aI (bK ?_))
  have hkl : k < l.length := by omega
  have hbb := ab2 (l := l) k
  have hrr := ae9 hl hkl
  have hee := (Lib.encodeRuneZ_length (l.getD k 0)).2
  refine aF (ku O O (cO O ?_))
  obtain ⟨bv, ov, cv, ev⟩ := mP.qX (hv _ (HL.right)) (by omega)
  cases ev
  refine aT (dP aB jU O O (by omega)) ?_
  refine aT (fB (dG fO O) O (by first | exact mP.yc (hv _ (HL.right)) (by omega) | exact mP.I8 (hv _ (HL.right)) (by omega) | exact mP.Ib (hv _ (HL.right)) (by omega))) ?_
  refine fH O func198 (ae7 HL (by omega)) ?_
  rintro u2 w2 H2
  refine jT (eF H2.f2 ((H2).aJ) bH NS O O (by first | omega | (simp only [List.length_append, List.length_nil, List.length_cons]; omega) | (simp; omega)) (by first | omega | (simp only [List.length_append, List.length_nil, List.length_cons]; omega) | (simp; omega))) ?_
  rintro l3 w3 H3
  try simp only [List.nil_append] at H3
  refine lg O (dJ (aS (aZ (aF (cO O (aT (gY O O (by omega)) (lg O (dJ ?_))))))))
  refine fG ((k + 1, l3)) ?_ ?_ ?_ ?_
  ·exact vV
  ·exact rJ
  ·(try dsimp only)
   first | done | exact ⟨by omega, by rw [JX l k hkl]; exact H3.f2.right⟩
  ·(try dsimp only); omega
 ·(try simp only [aG] at h1)
  refine iZ (bC (bC (dK (aZ (bT O (iJ O (dO results187 O ?_)))))))
  obtain rfl : k = l.length := by omega
  rw [List.take_length] at HL
  exact HL
end
end Go.Proofs.YtnhhmieghbfalaaGreatDoor
end
section
namespace Go.Proofs.YtnhhmieghbfalaaGreatDoor
open Go.RowKit
def VA (l : List Int) : ByteArray := l.foldl (fun s n => s.push (UInt8.ofNat n.toNat)) .empty
theorem aa5 (l : List Int) : VA l = ⟨(l.map fun n => UInt8.ofNat n.toNat).toArray⟩ := by
  have key : ∀ (l : List Int) (s : ByteArray), l.foldl (fun s n => s.push (UInt8.ofNat n.toNat)) s = ⟨s.data ++ (l.map fun n => UInt8.ofNat n.toNat).toArray⟩ := by
    intro l
    induction l with
    | nil => intro s; simp
    | cons x r ih =>
      intro s
      rw [List.foldl_cons, ih]
      simp [ByteArray.push]
  unfold VA
  rw [key]
  simp
def Fg (s : ByteArray) : List Int := s.data.toList.map fun b => (b.toNat : Int)
theorem zq (s : ByteArray) : (Fg s).length = s.size := by unfold Fg; simp
theorem EG (s : ByteArray) : ∀ x ∈ Fg s, 0 ≤ x ∧ x < 256 := by
  intro x hx
  obtain ⟨b, _, rfl⟩ := List.mem_map.1 hx
  have := b.toNat_lt
  omega
section
variable {P : Program} {L : List (Nat × Value)} {w0 w : World} {F : HP} {ty : TypeId} {x : Operand}
theorem PK {src dst e : TypeId} {v : Value} {l : List Int} (hs : P.underlying src = some (.slice e)) (hd : P.underlying dst = some .string) (he : P.underlying e = some (.int .u8)) (hx : ev L x = some v) (hr : mP w .u8 v l) :
    Val P L (.convert src dst x) ty w (.string (VA l)) w := fun ρ hρ _ _ _ _ => by
  obtain ⟨a, c, rfl, _, _, hc⟩ := Rd.cells (P := P) hr
  have loop : ∀ (f : Value → ByteArray → Sem (ForInStep ByteArray)), (∀ n s, f (.int .u8 n) s = pure (ForInStep.yield (s.push (UInt8.ofNat n.toNat)))) → ∀ (l : List Int) (s : ByteArray), (forIn (m := Sem) (l.map (Value.int .u8)).toArray s f).run P w = .ok (l.foldl (fun s n => s.push (UInt8.ofNat n.toNat)) s) w := by
    intro f hf l
    induction l with
    | nil => intro s; rfl
    | cons x l ih => intro s; simp [hf] at ih ⊢; try exact ih _
  have h1 : (Conv.bytesToString (.slice a l.length c)).run P w = .ok (.string (VA l)) w := by
    unfold Conv.bytesToString
    cases a with
    | none =>
      have : l = [] := by
        cases l with
        | nil => rfl
        | cons x l =>
          obtain ⟨_, _, e, _, _, hh⟩ := hr.open
          cases e
          obtain ⟨_, _, e, _⟩ := hh (by simp)
          cases e
      subst this; rfl
    | some a =>
      have h2 : (loadCells a l.length).run P w = .ok (l.map (Value.int .u8)).toArray w := by simpa [Builtin.firstCells] using hc
      simp only [Sem.run_bind, h2, Result.andThen_ok]
      rw [loop]
      · rfl
      · intro n s; rfl
  simp [execOp, hρ _ _ hx, convert, run_underlying hs, run_underlying hd, run_underlying he, h1]
theorem DI {src dst e : TypeId} {s : ByteArray} (H : V w0 w F) (hs : P.underlying src = some .string) (hd : P.underlying dst = some (.slice e)) (he : P.underlying e = some (.int .u8)) (hx : ev L x = some (.string s)) (h63 : (s.size : Int) ≤ 4611686018427387904) :
    Dj P L (.convert src dst x) ty w fun v w' => V w0 w' (uQ .u8 v (Fg s) • F) := by
  have hge := grownCap_ge w s.size 0 e
  refine BP (v := .slice (some ⟨w.heap.size, 0, none⟩) s.size (grownCap w s.size 0 e)) (w' := w.drew.alloc (.cells (bytesRow s (grownCap w s.size 0 e)) e ((bytesRow s (grownCap w s.size 0 e)).size, (bytesRow s (grownCap w s.size 0 e)).size + 1))) ?_ ?_
  · intro ρ hρ d pos xw g
    simp only [execOp, hρ _ _ hx, Sem.run_bind, run_bytes_of_string w src dst e s hs hd he]
    rfl
  · refine (H.drew.alloc _).freeze.I5 (qH (fun I hI => ?_) F)
    refine ⟨some ⟨w.heap.size, 0, none⟩, grownCap w s.size 0 e, by rw [zq], by rw [zq]; exact hge, Jt w _ _ _ (by omega), fun _ => ⟨w.heap.size, 0, _, _, _, rfl, hI, fun j hj => ?_⟩⟩
    rw [zq] at hj
    unfold bytesRow Fg
    rw [Nat.zero_add, Array.getElem?_append_left (by simpa using hj)]
    simp [List.getD_eq_getElem?_getD]
    have hj2 : j < s.data.size := hj
    exact ⟨s.data[j], Array.getElem?_eq_getElem hj2, by rw [Array.getElem?_eq_getElem hj2]; rfl⟩
end
end Go.Proofs.YtnhhmieghbfalaaGreatDoor
end
section
namespace Go.Proofs.YtnhhmieghbfalaaGreatDoor
open Go.RowKit
open _root_.Go.Proofs.Tryz
def IQ (hl : List rM) (tx : Int → Option ByteArray) (place : Int) (L : List Int) : ByteArray := if yD (Fg (fP hl tx place)) = L then fP hl tx place else VA (y9 L)
theorem zu {hl : List rM} {tx : Int → Option ByteArray} (h1 : ∀ x ∈ hl, af2 x) (h2 : ∀ k t, tx k = some t → t.size ≤ 16384) (k : Int) : (fP hl tx k).size ≤ 16384 := by
  unfold fP
  cases h : tx k with
  | some t => exact h2 k t h
  | none =>
    show (BA hl k).size ≤ 16384
    unfold BA WB
    split
    · rename_i hk
      rw [List.getD_eq_getElem?_getD, List.getElem?_eq_getElem (by omega)]
      exact (h1 _ (List.getElem_mem _)).1
    · simp
section
variable {w0 w : World} {F : HP} {e pb pw pt ph : Nat} {L : List Int} {pnt mk place base most : Int} {tx : Int → Option ByteArray} {hl : List rM}
theorem PL {x1 x3 x4 x5 x6 x7 x8 x9 x10 x12 yJ x14 x15 x16 x17 x18 x19 x20 x21 yO x23 x24 x25 yS x27 x28 x29 x30 x31 x32 yZ : Value} (H : V w0 w (gU e (.cells (.pointer (some ⟨pb, 0, none⟩) :: x1 :: .pointer (some ⟨pw, 0, none⟩) :: x3 :: x4 :: x5 :: x6 :: x7 :: x8 :: x9 :: x10 :: .pointer (some ⟨ph, 0, none⟩) :: x12 :: yJ :: x14 :: x15 :: x16 :: x17 :: x18 :: x19 :: x20 :: x21 :: yO :: x23 :: x24 :: x25 :: yS :: x27 :: x28 :: x29 :: x30 :: x31 :: x32 :: yZ :: []).toArray 85 (0, 0)) • jC pb L pnt mk • gU pw (.cells #[.int .i64 place, .map (some pt)] 123 (0, 0)) • lV zH pt (zI tx) • jM ph hl base most • F))
  (hT : MO w0) (hR : jd L) (hsz : (fP hl tx place).size ≤ 16384) :
  iK prog 162 #[.pointer (some ⟨e, 0, none⟩)] w fun v' w' => v' = .string (IQ hl tx place L) ∧ V w0 w' (gU e (.cells (.pointer (some ⟨pb, 0, none⟩) :: x1 :: .pointer (some ⟨pw, 0, none⟩) :: x3 :: x4 :: x5 :: x6 :: x7 :: x8 :: x9 :: x10 :: .pointer (some ⟨ph, 0, none⟩) :: x12 :: yJ :: x14 :: x15 :: x16 :: x17 :: x18 :: x19 :: x20 :: x21 :: yO :: x23 :: x24 :: x25 :: yS :: x27 :: x28 :: x29 :: x30 :: x31 :: x32 :: yZ :: []).toArray 85 (0, 0)) • jC pb L pnt mk • gU pw (.cells #[.int .i64 place, .map (some pt)] 123 (0, 0)) • lV zH pt (zI tx) • jM ph hl base most • F) := by
 have hbz : (Fg (fP hl tx place)).length ≤ 17179869184 := by rw [zq]; omega
 have hbi : Jv (Fg (fP hl tx place)) := EG _
 have hLl : L.length ≤ 1024 := by obtain ⟨a, c, xs, f, t, h1, h2, h3, h4, h5, h6, h7, hc1, hc2, hl, H1⟩ := (H.f2).buf; exact h4
 refine jl func162 ntmps162 ?_
 refine kG O (aI (bT O (kY O O (bg 0 aj O aU O (bg 2 aK O qc O (dQ lZ O (H).get.2 O (dM O (bg 0 iF O ah O (dQ ay O (H.f3).get.2 O (fH O func140 (Ad H.f5.f5.f5.f4) ?_))))))))))
 rintro _ w1 ⟨rfl, H1⟩
 refine vI O ?_
 have OM := H1.drew
 have mW := V.kp (OM.f5.f5.f5.f5.f5)
 refine tH [7] mW O (fM 0 O mW O (fM 3 O mW O (jF 4 O mW O (eP 5 O mW 0 aj O aU O (eP 6 O mW 0 aK O kM O (iD 7 O mW (fun W hW => jk iL O ((Kp.h hW)).get.2 O) (lC 1 O (DI OM iW bH bY O (by omega)) ?_)))))))
 rintro l2 w2 H2
 have Bq := V.kp (H2.f6.f6.f6.f6.f6.f6)
 refine dZ Bq (fun W hW => (Kp.h hW).right.f5.f5.f5.f5.f5) ?_
 refine lC 2 O (qW O func161 (OQ H2 (by assumption) (fun W HW => (HW).o9) (by assumption) (by omega))) ?_
 rintro u3 w3 H3
 have lW := V.kp (H3.f7.f7.f7.f7.f7.f7.f7)
 refine dZ lW (fun W hW => (Kp.h hW).right.f6.f6.f6.f6.f6.f6) ?_
 refine lC 8 O (qW O func154 (yF H3.f7)) ?_
 rintro u4 w4 H4
 have ng := V.kp (H4.f8.f8.f8.f8.f8.f8.f8.f8)
 refine dX ng (by kernel_rfl) ?_
 refine lC 9 O (qW O func62 (Gx _ _ _ _ _ ((H4.f3).aJ) ((H4).aJ))) ?_
 rintro _ w5 ⟨rfl, hD5⟩
 have HD5 := H4.yg hD5
 have zQ := V.kp (HD5.f8.f8.f8.f8.f8.f8.f8.f8)
 refine dX zQ (by kernel_rfl) ?_
 refine oH (aZ (dw O (fun h1 => ?_) (fun h1 => ?_)))
 ·(try simp only [aG] at h1)
  have hq := h1
  refine bT O (iJ O (aC (dO results162 O ?_)))
  exact ⟨by unfold IQ; rw [if_pos hq], HD5.right.f2.right.f2.right.f5.f5.f5.f4.f5⟩
 ·(try simp only [aG] at h1)
  have hq := h1
  refine gX (bT O (dM O (bg 0 aj O aU O (bg 0 aK O kM O (dQ iL O (HD5.f5).get.2 O (fH O func154 (yF HD5.f2) ?_))))))
  rintro u6 w6 H6
  refine fH O func186 (acZ H6 (fun W HW => (HW).aJ) (by assumption) (by omega)) ?_
  rintro u7 w7 H7
  refine aT (PK bH iW bY O ((H7).aJ)) (iJ O (dO results162 O ?_))
  exact ⟨by unfold IQ; rw [if_neg hq], H7.right.right.f2.right.f2.right.f2.right.f5.f5.f5.f4.f5⟩
end
namespace aX
variable (s : aX)
def sQ : ByteArray := IQ s.hl s.c.tx s.c.place s.c.L
def uT (k : Int) : List Int := yD (Fg (if k = s.c.place then s.sQ else s.stands k))
def yY (k : Int) : Int := if s.inn then (if k < 0 ∨ s.hl.length < k then 6 else if 1024 < (s.uT k).length then 6 else 0) else 1
def zN (k : Int) : aX :=
  if s.yY k = 0 then
    let t := s.dH false
    { t with whole := false, c := { t.c with tx := um t.c.tx t.c.place (some t.sQ), place := k, L := s.uT k, pt := (s.uT k).length, mark := -1, run := false } }
  else s
end aX
theorem OT {s : aX} (h : WR s.hl s.c) (hl : ∀ x ∈ s.hl, af2 x) (hL : s.c.L.length ≤ 1024) : s.sQ.size ≤ 16384 := by
  unfold aX.sQ IQ
  split
  · exact zu hl h.2.2 _
  · have h1 := Vz s.c.L
    have h2 : (VA (y9 s.c.L)).size = (y9 s.c.L).length := by rw [aa5]; show (((y9 s.c.L).map fun n => UInt8.ofNat n.toNat).toArray).size = _; simp
    rw [h2]; omega
theorem TJ (s : aX) (on : Bool) : (s.dH on).hl = s.hl ∧ (s.dH on).c.tx = s.c.tx ∧ (s.dH on).c.place = s.c.place ∧ (s.dH on).c.L = s.c.L := by
  unfold aX.dH; split <;> exact ⟨rfl, rfl, rfl, rfl⟩
theorem afa (tx : Int → Option ByteArray) (k : Int) (b : ByteArray) : upd (zI tx) k (.string b) = zI (um tx k (some b)) := by
  funext x
  unfold upd zI um
  split <;> rfl
theorem V.afb {w0 w : World} {F : HP} {b : Nat} {U : Int → List (List jH)} (H : V w0 w (DX b U • F)) (k : Int) : iH (U k) [] ≤ 16384 := by
  obtain ⟨D, P, h1, h2, H1⟩ := H.aek
  by_cases hk : k ∈ D
  · have H2 := H1.ael h1 h2 hk
    obtain ⟨gv, nv, gs, now, k1, _⟩ := H2.Du
    exact k1.2.1
  · rw [h2 k hk]; decide
theorem ac0 (s : aX) (on : Bool) : (s.dH on).put = [] := by
  unfold aX.dH; split
  · assumption
  · rfl
theorem ab3 {t : aX} {k : Int} {l : List Int} (h : ru t) (hp : t.put = []) (hk : ¬ (k < 0 ∨ (t.hl.length : Int) < k)) (hh : t.sQ.size ≤ 16384) (hu : iH (t.c.un k) [] ≤ 16384) :
    ru { t with whole := false, c := { t.c with tx := um t.c.tx t.c.place (some t.sQ), place := k, L := l, pt := l.length, mark := -1, run := false } } := by
  obtain ⟨h1, h2, h3, h4, h5, h6⟩ := h
  refine ⟨⟨by show 0 ≤ k; omega, by show k ≤ t.hl.length; omega, fun x b hb => ?_⟩, h2, h3, h4, ?_, h6⟩
  · by_cases hx : x = t.c.place
    · subst hx
      have : some t.sQ = some b := (jv t.c.tx t.c.place (some t.sQ)).symm.trans hb
      cases this; exact hh
    · exact h1.2.2 x b ((zi t.c.tx (some t.sQ) hx).symm.trans hb)
  · show iH (t.c.un k) t.put ≤ 16384
    rw [hp]; exact hu
section
variable {w0 w : World} {F : HP} {e : Nat} {s : aX} {k : Int}
theorem Zp (H : V w0 w (gQ e s • F)) (hT : MO w0) (hR : jd s.c.L) : iK prog 108 #[.pointer (some ⟨e, 0, none⟩), .int .i64 k] w fun v w' => v = .int .i64 (s.yY k) ∧ V w0 w' (gQ e (s.zN k) • F) := by
 refine nO func108 ntmps108 ?_
 refine kG O (aI (bT O (fH O qF (jY H) ?_)))
 rintro _ _ ⟨rfl, rfl⟩
 refine iU O (bT O (aT (fF O O) (jo O (fun h1 => ?_) (fun h1 => ?_))))
 ·(try simp only [aG] at h1)
  obtain ⟨hin, hpe⟩ := uX h1
  refine bT O (iJ O (aC (dO results108 O ?_)))
  rw [hpe]
  exact ⟨by simp [aX.yY, aX.zN, hin], by rw [show s.zN k = s from by simp [aX.yY, aX.zN, hin]]; exact H⟩
 ·(try simp only [aG] at h1)
  have hin := qK h1
  refine gX (aI (aI ?_))
  obtain ⟨vC, wF, wG, xC, wH, wI, wJ, wK, vF, rW, rX, rY, rZ, su, sD, sH, sJ, sK, sN, sO, gB, dF, kK, gG⟩ := (H).Gs
  obtain ⟨hv9, hk9, _⟩ := (gG.f7).hist
  have hLl : s.c.L.length ≤ 1024 := by obtain ⟨a, c, xs, f, t, h1, h2, h3, h4, h5, h6, h7, hc1, hc2, hl, H1⟩ := (gG.f2).buf; exact h4
  have hcl := hk9.1
  refine aF (cO O (aT (fJ O O) (nS O (fun h2 => ?_) (fun h2 => ?_))))
  ·(try simp only [aG] at h2)
   have hbad : k < 0 ∨ (s.hl.length : Int) < k := .inl h2
   refine dB (dB (dB (dB (dB (dB (dB (mQ O O (iR (DZ (jE O (aC (dO results108 O ?_))))))))))))
   have hE : s.yY k = 6 := by unfold aX.yY; rw [if_pos hin, if_pos (by omega)]
   have Rn := gG.f11.f11.f11.f11.f11.f11.f11.f11.f11.f11.f11
   have O6 := V.iC (s := s) gB dF Rn
   exact ⟨by rw [hE], by unfold aX.zN; rw [if_neg (by rw [hE]; decide)]; exact O6⟩
  ·(try simp only [aG] at h2)
   refine bJ (cO O (bJ (cO O (bJ (dM O (bJ (bg 11 aj O sizeOf41 O (bJ (dQ oL O (gG).get.2 O (bJ (fH O func131 (vX gG.f7) ?_)))))))))))
   rintro _ w6 ⟨rfl, H6⟩
   refine bJ (aT (fZ O O) (kP O O (jo O (fun h3 => ?_) (fun h3 => ?_))))
   ·(try simp only [aG] at h3)
    have al2 := h3
    refine jE O (aC (dO results108 O ?_))
    have hE : s.yY k = 6 := by unfold aX.yY; rw [if_pos hin, if_pos (by omega)]
    have YW := H6.f11.f11.f11.f11.f5.f11.f11.f11.f11.f11.f11
    have QC := V.iC (s := s) gB dF YW
    exact ⟨by rw [hE], by unfold aX.zN; rw [if_neg (by rw [hE]; decide)]; exact QC⟩
   ·(try simp only [aG] at h3)
    have hgood : ¬ (k < 0 ∨ (s.hl.length : Int) < k) := by have h9 := h3; omega
    refine gX (aI ?_)
    have hsz : (fP s.hl s.c.tx s.c.place).size ≤ 16384 := zu hk9.2.2.2.2.2 gB.1.2.2 _
    have hsk : (fP s.hl s.c.tx k).size ≤ 16384 := zu hk9.2.2.2.2.2 gB.1.2.2 _
    have ZM : s.sQ.size ≤ 16384 := OT gB.1 hk9.2.2.2.2.2 hLl
    unfold aX.sQ at ZM
    have hb1 := EG (IQ s.hl s.c.tx s.c.place s.c.L)
    have hb2 := EG (fP s.hl s.c.tx k)
    have hb3 := zq (IQ s.hl s.c.tx s.c.place s.c.L)
    have hb4 := zq (fP s.hl s.c.tx k)
    refine aF (cO O (fH O func162 (PL H6.f6.f6.f5.f5 (by assumption) (by assumption) (by assumption)) ?_))
    rintro _ w10 ⟨rfl, rU⟩
    refine jT (DI rU iW bH bY O (by omega)) ?_
    rintro l11 Ii rE
    refine fH O func161 (OQ rE (by assumption) (fun W HW => (HW).o9) (by assumption) (by omega)) ?_
    rintro u12 w12 uP
    refine iU O ?_
    refine yV [(0, _), (1, _)] (fun (u : Value) => [(6, u)]) (fun (u : Value) W => V w0 W (kF 21 .i32 u (s.uT k) • gQ e s • F)) vV ?_ ?_
    ·rintro u P7 HJ
     dsimp only [List.cons_append, List.nil_append]
     refine aI (bT O (aT (kT ((HJ).aJ) aB O) (aT (fZ O O) (jo O (fun h4 => ?_) (fun h4 => ?_)))))
     ·(try simp only [aG] at h4)
      have hE : s.yY k = 6 := by have h9 := h4; unfold aX.yY; rw [if_pos hin, if_neg hgood, if_pos (by omega)]
      refine jE O (aC (dO results108 O ?_))
      exact ⟨by rw [hE], by unfold aX.zN; rw [if_neg (by rw [hE]; decide)]; exact HJ.right⟩
     ·(try simp only [aG] at h4)
      have hE : s.yY k = 0 := by have h9 := h4; unfold aX.yY; rw [if_pos hin, if_neg hgood, if_neg (by omega)]
      have hshort : (s.uT k).length ≤ 1024 := by have h9 := h4; omega
      refine gX (bT O (fH O func48 (tq HJ.f2) ?_))
      rintro _ O9 BJ
      obtain ⟨t, ht, HT⟩ : ∃ t, s.dH false = t ∧ V w0 O9 (gQ e t • kF 21 .i32 u (s.uT k) • F) := ⟨_, rfl, BJ⟩
      obtain ⟨hfh, hft, hfp, hfL⟩ := TJ s false
      rw [ht] at hfh hft hfp hfL
      obtain ⟨vC, wF, wG, xC, wH, wI, wJ, wK, vF, rW, rX, rY, rZ, su, sD, sH, sJ, sK, sN, sO, gB, dF, kK, gG⟩ := (HT).Gs
      have hR2 : jd t.c.L := by rw [hfL]; exact hR
      have hsz2 : (fP t.hl t.c.tx t.c.place).size ≤ 16384 := by rw [hfh, hft, hfp]; exact zu hk9.2.2.2.2.2 (hft ▸ gB.1.2.2) _
      refine uV ?_
      have afc := gG.drew
      have vw := V.kp (afc.f7.right.f11.f11.f11.f11.f11.f11.f11.f11.f11.f11.f11)
      refine tH [4, 7, 12, 15] vw O (fM 0 O vw O (jF 1 O vw O (eP 2 O vw 0 aj O aU O (eP 3 O vw 2 aK O qc O (iD 4 O vw (fun W hW => jk lZ O ((Kp.h hW)).get.2 O) (jF 5 O vw O (eP 6 O vw 1 iF O sizeOf121 O (iD 7 O vw (fun W hW => jk qU O ((Kp.h hW).f4).get.2 O) (fM 8 O vw O (jF 9 O vw O (eP 10 O vw 0 aj O aU O (eP 11 O vw 2 aK O qc O (iD 12 O vw (fun W hW => jk lZ O ((Kp.h hW)).get.2 O) (jF 13 O vw O (eP 14 O vw 0 iF O ah O (iD 15 O vw (fun W hW => jk ay O ((Kp.h hW).f4).get.2 O) (fM 16 O vw O (lC 17 O (qW O func162 (PL afc.f7.f6.f6.f5.f5 (by assumption) (by assumption) (by assumption))) ?_))))))))))))))))))
      rintro _ w16 ⟨rfl, yG⟩
      have GL := V.kp (yG.f12.f12.f12.f12.f12.f12.f12.f12.f12.f12.f12.f12)
      refine dZ GL (fun W hW => (Kp.h hW).f5.right.f11.f11.f11.f11.f11.f11.f10.f10.f11.f11.f11) ?_
      refine gW 18 O (by kernel_rfl) (FQ yG.f4 qU ay O O O) ?_
      rintro _ ZI DL
      have BR := V.kp (DL.f12.f12.f12.f12.f12.f12.f12.f12.f12.f12.f12.f12)
      refine dX BR (by kernel_rfl) ?_
      refine oH (aZ (bT O (dM O (bg 0 aj O aU O (bg 2 aK O qc O (dQ lZ O (DL.f2).get.2 O (kY O O (bg 0 iF O ah O (aH (st2 0 DL.f4 ah) ?_)))))))))
      rintro _ U5 DN
      refine qG O (cO O (fH O func130 (O7 DN (fun W HW => (HW.f12).aJ) hshort) ?_))
      rintro _ X9 ⟨p19, rfl, Df⟩
      refine cO O (xY O O (xY O O (dM O (bg 0 aj O aU O (bg 0 aK O kM O (aH (ig 0 Df.f4 kM) ?_))))))
      rintro _ ZJ DR
      refine qG O (kY O O (bg 32 aj O aN O (aH (ig 32 DR aN) ?_)))
      rintro _ Ya xZ
      refine dM O (bg 0 aj O aU O (bg 10 aK O aN O (aH (ig 10 xZ aN) ?_)))
      rintro _ w22 FI
      refine iR (jE O (dO results108 O ?_))
      have hut := (FI.f8).afb k
      have aiA : t.sQ.size ≤ 16384 := OT gB.1 (hfh ▸ hk9.2.2.2.2.2) (by rw [hfL]; exact hLl)
      have HQ := FI.f5.right.f12.right.f11.f11.f11.f11.f9.f11.f10.f10.f11.f11.f11
      rw [afa] at HQ
      exact ⟨by rw [hE], by unfold aX.zN; rw [if_pos hE]; dsimp only; rw [ht]; exact V.iC (s := { t with whole := false, c := { t.c with tx := um t.c.tx t.c.place (some t.sQ), place := k, L := s.uT k, pt := (s.uT k).length, mark := -1, run := false } }) (ab3 gB (ht ▸ ac0 s false) (hfh ▸ hgood) aiA hut) dF HQ⟩
    ·skip
     refine bT O (kY O O (bg 0 aj O aU O (bg 2 aK O qc O (dQ lZ O (uP.f3).get.2 O (dM O (bg 0 iF O ah O (dQ ay O (uP.f5).get.2 O (aT (fF O O) (jo O (fun h5 => ?_) (fun h5 => ?_))))))))))
     ·(try simp only [aG] at h5)
      have hkp : ¬ k = s.c.place := h5
      refine aF (ku O O (fH O func140 (Ad uP.f7.f7.f7.f6) ?_))
      rintro _ Yb ⟨rfl, BM⟩
      refine jT (DI BM iW bH bY O (by omega)) ?_
      rintro l24 w24 Hw
      refine fH O func161 (OQ Hw (by assumption) (fun W HW => (HW).o9) (by assumption) (by omega)) ?_
      rintro u25 w25 Jo
      refine lg O ?_
      have aie := Jo.f15.f15.f15.f15.f10.f15.f11.f11.f15.f15.f13
      have acR := V.iC (s := s) gB dF aie
      refine dJ ?_
      refine ji (_) rJ vV (by (try dsimp only); exact by unfold aX.uT; first | (rw [if_pos hkp]; exact acR.f3.right.f3.right.f3.right.f2) | (rw [if_neg hkp]; exact acR.f3.right.f3.right.f3.right.f2))
     ·(try simp only [aG] at h5)
      have hkp : k = s.c.place := by have h9 := h5; simpa using h9
      have alH := uP.f13.f13.f13.f13.f11.f13.f12.f12.f13.f13.f13
      have ajZ := V.iC (s := s) gB dF alH
      refine eG ?_
      refine ji (_) rJ vV (by (try dsimp only); exact by unfold aX.uT; first | (rw [if_pos hkp]; exact ajZ.f3.right.f2) | (rw [if_neg hkp]; exact ajZ.f3.right.f2))
end
theorem NU {l : List ByteArray} {k : Nat} (hk : k < l.length) : (strs l).getD k undef = .string (l.getD k .empty) := by
  unfold strs
  simp [List.getD_eq_getElem?_getD, hk]
theorem afd (l : List ByteArray) (k : Nat) (b : ByteArray) : (strs l).set k (.string b) = strs (l.set k b) := by unfold strs; rw [List.map_set]
section
variable {w0 w : World} {F : HP} {y : Nat} {s : aX} {k x : Int} {nv : Value} {l : List ByteArray} {b : ByteArray}
theorem UC {x0 x1 x2 x3 x5 x6 x7 x8 x9 x10 x11 x12 yJ x14 x15 x16 x17 x18 x19 x20 x21 yO x23 x24 x25 yS x27 x28 x29 x30 x31 x32 yZ x34 Gn Gp Gq x38 x39 x40 x41 : Value} {n : Nat} (H : V w0 w (gU y (.cells (x0 :: x1 :: x2 :: x3 :: nv :: x5 :: x6 :: x7 :: x8 :: x9 :: x10 :: x11 :: x12 :: yJ :: x14 :: x15 :: x16 :: x17 :: x18 :: x19 :: x20 :: x21 :: yO :: x23 :: x24 :: x25 :: yS :: x27 :: x28 :: x29 :: x30 :: x31 :: x32 :: yZ :: x34 :: Gn :: Gp :: Gq :: x38 :: x39 :: x40 :: x41 :: []).toArray 58 (0, 0)) • Row 9 1 nv n (strs l) • F)) (hk : 0 ≤ k ∧ k < n ∧ l.length = n) : iK prog 164 #[.pointer (some ⟨y, 3, none⟩), .int .i64 k] w fun v w' => v = .tuple #[.string (l.getD k.toNat .empty), .bool true] ∧ V w0 w' (gU y (.cells (x0 :: x1 :: x2 :: x3 :: nv :: x5 :: x6 :: x7 :: x8 :: x9 :: x10 :: x11 :: x12 :: yJ :: x14 :: x15 :: x16 :: x17 :: x18 :: x19 :: x20 :: x21 :: yO :: x23 :: x24 :: x25 :: yS :: x27 :: x28 :: x29 :: x30 :: x31 :: x32 :: yZ :: x34 :: Gn :: Gp :: Gq :: x38 :: x39 :: x40 :: x41 :: []).toArray 58 (0, 0)) • Row 9 1 nv n (strs l) • F) := by
  obtain ⟨hk1, hk2, hk3⟩ := hk
  refine nO func164 ntmps164 ?_
  refine kQ (lg O (vI O (bT O (aT (fJ O O) (nS O (fun h => by exfalso; (try simp only [aG] at h); omega) (fun h1 => ?_))))))
  (try simp only [aG] at h1)
  refine bJ (cO O (bJ (cO O (bJ (dM O (bJ (bg 1 dL O lu O (bJ (dQ dW O (H).get.2 O (bJ (aT (fV ((H.f2).aJ) dW O) (bJ (aT (vT O O) (kP O O (jo O (fun h => by exfalso; (try simp only [aG] at h); omega) (fun h2 => ?_))))))))))))))))
  (try simp only [aG] at h2)
  refine gX (bT O (dM O (bg 1 dL O lu O (dQ dW O (H).get.2 O (cO O ?_)))))
  obtain ⟨bnv, onv, cnv, env⟩ := Rd.qX ((H.f2).aJ) (by omega)
  cases env
  refine aT (dP dW oM O O (by omega)) ?_
  refine aT (FW (fB (dG iW O) O (by first | exact Rd.yc ((H.f2).aJ) (by omega) | exact Rd.I8 ((H.f2).aJ) (by omega) | exact Rd.Ib ((H.f2).aJ) (by omega))) (NU (l := l) (by omega))) ?_
  refine lg O (iJ O (Fp results164 O O ?_))
  exact ⟨O, H.f2.f2⟩
theorem Zq {x0 x1 x2 x3 x6 x7 x8 x9 x10 x11 x12 yJ x14 x15 x16 x17 x18 x19 x20 x21 yO x23 x24 x25 yS x27 x28 x29 x30 x31 x32 yZ x34 Gn Gp Gq x38 x39 x40 x41 : Value} {n : Nat} (H : V w0 w (gU y (.cells (x0 :: x1 :: x2 :: x3 :: nv :: .int .i64 x :: x6 :: x7 :: x8 :: x9 :: x10 :: x11 :: x12 :: yJ :: x14 :: x15 :: x16 :: x17 :: x18 :: x19 :: x20 :: x21 :: yO :: x23 :: x24 :: x25 :: yS :: x27 :: x28 :: x29 :: x30 :: x31 :: x32 :: yZ :: x34 :: Gn :: Gp :: Gq :: x38 :: x39 :: x40 :: x41 :: []).toArray 58 (0, 0)) • Row 9 1 nv n (strs l) • F)) (hk : 0 ≤ k ∧ k < n ∧ l.length = n) (hx : 0 ≤ x ∧ x < n) (hb : b.size ≤ 16384) : iK prog 166 #[.pointer (some ⟨y, 3, none⟩), .int .i64 k, .string b] w fun v w' =>
  v = .tuple #[.string ((l.set x.toNat b).getD k.toNat .empty), .int .i64 0] ∧ V w0 w' (gU y (.cells (x0 :: x1 :: x2 :: x3 :: nv :: .int .i64 k :: x6 :: x7 :: x8 :: x9 :: x10 :: x11 :: x12 :: yJ :: x14 :: x15 :: x16 :: x17 :: x18 :: x19 :: x20 :: x21 :: yO :: x23 :: x24 :: x25 :: yS :: x27 :: x28 :: x29 :: x30 :: x31 :: x32 :: yZ :: x34 :: Gn :: Gp :: Gq :: x38 :: x39 :: x40 :: x41 :: []).toArray 58 (0, 0)) • Row 9 1 nv n (strs (l.set x.toNat b)) • F) := by
 obtain ⟨hk1, hk2, hk3⟩ := hk
 obtain ⟨hx1, hx2⟩ := hx
 have hls : (l.set x.toNat b).length = n := by rw [List.length_set]; exact hk3
 refine FY func166 ntmps166 ?_
 refine kQ (lg O (vI O (bT O (aT (fJ O O) (nS O (fun h => by exfalso; (try simp only [aG] at h); omega) (fun h1 => ?_))))))
 (try simp only [aG] at h1)
 refine bJ (cO O (bJ (cO O (bJ (dM O (bJ (bg 1 dL O lu O (bJ (dQ dW O (H).get.2 O (bJ (aT (fV ((H.f2).aJ) dW O) (bJ (aT (vT O O) (kP O O (jo O (fun h => by exfalso; (try simp only [aG] at h); omega) (fun h2 => ?_))))))))))))))))
 (try simp only [aG] at h2)
 refine gX (aI (bT O (aT (Og iW O) (aT (fZ O O) (jo O (fun h => by exfalso; (try simp only [aG] at h); omega) (fun h3 => ?_))))))
 (try simp only [aG] at h3)
 refine gX (aI ?_)
 have aa4 := H.drew
 have yA := V.kp (aa4.f2.f2)
 refine tH [3, 7] yA O (fM 0 O yA O (jF 1 O yA O (eP 2 O yA 1 dL O lu O (iD 3 O yA (fun W hW => jk dW O ((Kp.h hW)).get.2 O) (fM 4 O yA O (jF 5 O yA O (eP 6 O yA 2 dL O ah O (iD 7 O yA (fun W hW => jk ay O ((Kp.h hW)).get.2 O) (fM 8 O yA O ?_)))))))))
 obtain ⟨bnv, onv, cnv, env⟩ := Rd.qX ((aa4.f2).aJ) (by omega)
 cases env
 refine iE 9 O yA (fun _ => dP dW oM O O (by omega)) ?_
 refine gW 10 O (by kernel_rfl) (MI 0 aa4.f2 oM O O (by first | rfl | assumption) (by omega) (by decide)) ?_
 rintro _ w1 H1
 have WJ := V.kp (H1.f2.f2)
 refine dX WJ (by kernel_rfl) ?_
 have HS5 := H1
 rw [Nat.mul_one, Nat.add_zero, afd] at HS5
 have Ho2 := H1
 refine oH (aZ (bT O (kY O O (bg 2 dL O ah O (aH (kU 5 HS5.f2 ah) ?_)))))
 rintro _ w3 H3
 refine qG O (dM O (bg 1 dL O lu O (dQ dW O (H3).get.2 O (cO O (aT (dP dW oM O O (by omega)) ?_)))))
 refine aT (FW (fB (dG iW O) O (by first | exact Rd.yc ((H3.f2).aJ) (by omega) | exact Rd.I8 ((H3.f2).aJ) (by omega) | exact Rd.Ib ((H3.f2).aJ) (by omega))) (NU (l := l.set x.toNat b) (by omega))) ?_
 refine lg O (iJ O (Fp results166 O O ?_))
 exact ⟨O, H3.f2.f2⟩
theorem Xv (H : V w0 w (dY y s • F)) (hR : jd s.c.L) : iK prog 163 #[.pointer (some ⟨y, 0, none⟩)] w fun v' w' => v' = .string s.sQ ∧ V w0 w' (dY y s • F) := by
 refine jl func163 ntmps163 ?_
 obtain ⟨ED, tu, uo, uq, uw, wL, wM, EF, wO, wP, vJ, vK, wQ, uy, uz, uD, uF, uG, uH, uI, uJ, uK, uM, uN, uO, dS, lF, fU⟩ := (H).xq
 obtain ⟨hv9, hk9, _⟩ := (fU.f9).FH
 have hsz : (fP s.hl s.c.tx s.c.place).size ≤ 16384 := zu hk9.2.2.2.2.2 dS.ok.1.2.2 _
 have hbz : (Fg (fP s.hl s.c.tx s.c.place)).length ≤ 17179869184 := by rw [zq]; omega
 have hbi : Jv (Fg (fP s.hl s.c.tx s.c.place)) := EG _
 obtain ⟨NG, NH, rD, tC, wR, NI, NJ, jO⟩ := (fU.f2).ref
 refine kG O (aI (aI ?_))
 have Jz := jO.drew
 have jL := V.kp (Jz.f13.f13.f13.f13.f13.f13.f13.f13.f13.f13.f13.f13.f13)
 refine tH [4, 11, 14] jL O (fM 0 O jL O (jF 1 O jL O (eP 2 O jL 1 aA O bZ O (eP 3 O jL 5 bf O oM O (iD 4 O jL (fun W hW => jk iW O ((Kp.h hW).f3).get.2 O) (fM 7 O jL O (jF 8 O jL O (eP 9 O jL 1 aA O bZ O (eP 10 O jL 0 bf O kD O (iD 11 O jL (fun W hW => jk jf O ((Kp.h hW).f3).get.2 O) (jF 12 O jL O (eP 13 O jL 0 bG O bI O (iD 14 O jL (fun W hW => jk aB O ((Kp.h hW)).get.2 O) (lC 5 O (DI Jz iW bH bY O (by omega)) ?_))))))))))))))
 rintro l3 w3 H3
 have lW := V.kp (H3.f14.f14.f14.f14.f14.f14.f14.f14.f14.f14.f14.f14.f14.f14)
 refine dZ lW (fun W hW => (Kp.h hW).right.f13.f13.f13.f13.f13.f13.f13.f13.f13.f13.f13.f13.f13) ?_
 refine lC 6 O (qW O func165 (Lr H3 (fun W HW => (HW).o9) (by assumption) (by omega))) ?_
 rintro u4 w4 H4
 have ng := V.kp (H4.f15.f15.f15.f15.f15.f15.f15.f15.f15.f15.f15.f15.f15.f15.f15)
 refine dZ ng (fun W hW => (Kp.h hW).right.f14.f14.f14.f14.f14.f14.f14.f14.f14.f14.f14.f14.f14.f14) ?_
 refine lC 15 O (qW O func121 (Nb _ _ _ _ _ ((H4).aJ) ((H4.f4).aJ))) ?_
 rintro _ w5 ⟨rfl, hD5⟩
 have HD5 := H4.yg hD5
 have zQ := V.kp (HD5.f15.f15.f15.f15.f15.f15.f15.f15.f15.f15.f15.f15.f15.f15.f15)
 refine dX zQ (by kernel_rfl) ?_
 refine oH (aZ (dw O (fun h1 => ?_) (fun h1 => ?_)))
 ·(try simp only [aG] at h1)
  have hq := h1
  refine bT O (dM O (bg 1 aA O bZ O (bg 5 bf O oM O (dQ iW O (HD5.f5).get.2 O (iJ O (aC (dO results163 O ?_)))))))
  have Qd := HD5.f4.f4
  have Qe := V.mO rD tC wR Qd
  have Iy := Qe.f14.f14.f14.f14.f14.f14.f14.f14.f14.f14.f11.f14
  have GK := V.fE (s := s) dS Iy
  exact ⟨by unfold aX.sQ IQ; rw [if_pos hq] <;> rfl, GK.f2.right.f2.right⟩
 ·(try simp only [aG] at h1)
  have hq := h1
  refine gX (bT O (dM O (bg 1 aA O bZ O (bg 0 bf O kD O (dQ jf O (HD5.f5).get.2 O (dM O (bg 0 bG O bI O (dQ aB O (HD5.f3).get.2 O (fH O func187 (UA HD5 (fun W HW => (HW.f4).aJ) (by assumption) (by omega)) ?_)))))))))
  rintro u12 w12 uP
  refine aT (PK bH iW bY O ((uP).aJ)) (iJ O (dO results163 O ?_))
  have LX := uP.f5.f5
  have Fz := V.mO rD tC wR LX
  have SI := Fz.f15.f15.f15.f15.f15.f15.f15.f15.f15.f15.f11.f15
  have WO := V.fE (s := s) dS SI
  exact ⟨by unfold aX.sQ IQ; rw [if_neg hq] <;> rfl, WO.f2.right.f2.right.f2.right⟩
theorem iY.goto {t : aX} {es : List gJ} {A : List LE} {yf yt : Int} {l : List Int} (h : iY t es A yf yt) (hp : t.put = []) (hk : ¬ (k < 0 ∨ (t.hl.length : Int) < k)) (hh : t.sQ.size ≤ 16384) :
    iY { t with whole := false, c := { t.c with tx := um t.c.tx t.c.place (some t.sQ), place := k, L := l, pt := l.length, mark := -1, run := false } } es A yf yt :=
  ⟨ab3 h.ok hp hk hh (h.rx.1.1 k).1, h.rx, h.says, h.Fv, h.placed, h.G9⟩
theorem Xw (H : V w0 w (dY y s • F)) (hR : jd s.c.L) : iK prog 109 #[.pointer (some ⟨y, 0, none⟩), .int .i64 k] w fun v' w' => v' = .int .i64 (s.yY k) ∧ V w0 w' (dY y (s.zN k) • F) := by
 refine nO func109 ntmps109 ?_
 obtain ⟨ED, tu, uo, uq, uw, wL, wM, EF, wO, wP, vJ, vK, wQ, uy, uz, uD, uF, uG, uH, uI, uJ, uK, uM, uN, uO, dS, lF, fU⟩ := (H).xq
 obtain ⟨hv9, hk9, _⟩ := (fU.f9).FH
 have hcl := hk9.1
 have hLl : s.c.L.length ≤ 1024 := by obtain ⟨a, c, h4, _⟩ := (fU.f2).ref; exact h4
 have hpl0 := dS.ok.1.1
 have am3 := dS.ok.1.2.1
 have hsz : (fP s.hl s.c.tx s.c.place).size ≤ 16384 := zu hk9.2.2.2.2.2 dS.ok.1.2.2 _
 have hsk : (fP s.hl s.c.tx k).size ≤ 16384 := zu hk9.2.2.2.2.2 dS.ok.1.2.2 _
 have ZM : s.sQ.size ≤ 16384 := OT dS.ok.1 hk9.2.2.2.2.2 hLl
 refine kG O (aI (bT O (dM O (bg 32 aA O aN O (dQ bn O (fU).get.2 O (aT (jG O) (jo O (fun h1 => ?_) (fun h1 => ?_))))))))
 ·(try simp only [aG] at h1)
  have hin : s.inn = false := by simpa using h1
  refine jE O (aC (dO results109 O ?_))
  have F9 := fU.f12.f12.f12.f12.f12.f12.f12.f12.f12.f12.f12.f12
  have Fq := V.fE (s := s) dS F9
  exact ⟨by simp [aX.yY, aX.zN, hin], by rw [show s.zN k = s from by simp [aX.yY, aX.zN, hin]]; exact Fq⟩
 ·(try simp only [aG] at h1)
  have hin : s.inn = true := by simpa using h1
  refine gX (aI (aI ?_))
  obtain ⟨alI, aa6, OU⟩ := (fU.f9).FH
  refine aF (cO O (aT (fJ O O) (nS O (fun h2 => ?_) (fun h2 => ?_))))
  ·(try simp only [aG] at h2)
   refine dB (dB (dB (dB (dB (dB (dB (dB (dB (dB (mQ O O (iR (DZ (aI ?_)))))))))))))
   have Qd := OU.f2.f2
   have Qe := V.Bo aa6 Qd
   refine aF (iJ O (aC (dO results109 O ?_)))
   have hE : s.yY k = 6 := by unfold aX.yY; rw [if_pos hin, if_pos (by omega)]
   have Iy := Qe.f12.f12.f12.f4.f12.f12.f12.f12.f12.f12.f12.f12
   have GK := V.fE (s := s) dS Iy
   exact ⟨by rw [hE], by unfold aX.zN; rw [if_neg (by rw [hE]; decide)]; exact GK⟩
  ·(try simp only [aG] at h2)
   refine bJ (cO O (bJ (cO O (bJ (dM O (bJ (bg 0 aA O sizeOf44 O (bJ (dQ xu O (OU.f3).get.2 O (bJ (dM O (bJ (bg 0 jm O lN O (bJ (dQ dN O (OU).get.2 O (bJ (aT (fV ((OU.f2).EO) dN O) (bJ (aT (fZ O O) (kP O O (jo O (fun h3 => ?_) (fun h3 => ?_))))))))))))))))))))))
   ·(try simp only [aG] at h3)
    refine aI ?_
    have Sj := OU.f2.f2
    have Qh := V.Bo aa6 Sj
    refine aF (iJ O (aC (dO results109 O ?_)))
    have hE : s.yY k = 6 := by unfold aX.yY; rw [if_pos hin, if_pos (by omega)]
    have WU := Qh.f12.f12.f12.f4.f12.f12.f12.f12.f12.f12.f12.f12
    have WV := V.fE (s := s) dS WU
    exact ⟨by rw [hE], by unfold aX.zN; rw [if_neg (by rw [hE]; decide)]; exact WV⟩
   ·(try simp only [aG] at h3)
    refine gX (aI ?_)
    have aaP := OU.f2.f2
    have aaQ := V.Bo aa6 aaP
    have hgood : ¬ (k < 0 ∨ (s.hl.length : Int) < k) := by omega
    have hkk : 0 ≤ k ∧ k < ((s.hl.length + 1 : Nat) : Int) ∧ (oO s.hl s.c.tx).length = s.hl.length + 1 := ⟨by omega, by omega, rC _ _⟩
    have hnk : (oO s.hl s.c.tx).getD k.toNat .empty = s.stands k := by rw [EZ (by omega), Int.toNat_of_nonneg hkk.1]; rfl
    have htz : (if k = s.c.place then s.sQ else s.stands k).size ≤ 16384 := by split; exact ZM; exact hsk
    have hb1 := zq (if k = s.c.place then s.sQ else s.stands k)
    have hb2 := EG (if k = s.c.place then s.sQ else s.stands k)
    have aio := aaQ.f12.f12.f12.f4.f12.f12.f12.f12.f12.f12.f12.f12
    have aip := V.fE (s := s) dS aio
    refine aF (cO O (fH O func163 (Xv aip (by assumption)) ?_))
    rintro _ w24 ⟨rfl, Hw⟩
    obtain ⟨ED, tu, uo, uq, uw, wL, wM, EF, wO, wP, vJ, vK, wQ, uy, uz, uD, uF, uG, uH, uI, uJ, uK, uM, uN, uO, dS, lF, fU⟩ := (Hw).xq
    refine iU O (bT O (dM O (bg 1 aA O bZ O (bg 2 bf O mJ O (cO O (fH O func164 (UC fU.f5.f2 (by assumption)) ?_))))))
    rintro _ w26 ⟨rfl, FK⟩
    refine cO O (xY O O (xY O O (lg O (iU O ?_))))
    refine yV [(0, _), (1, _), (5, _)] (fun (_ : Unit) => [(6, .string (if k = s.c.place then s.sQ else s.stands k))]) (fun (_ : Unit) W => V w0 W (gU y (.cells (.pointer (some ⟨ED, 0, none⟩) :: .pointer (some ⟨tu, 0, none⟩) :: .pointer (some ⟨uo, 0, none⟩) :: uq :: uw :: .int .i64 s.c.place :: .string (fP s.hl s.c.tx s.c.place) :: wL :: wM :: .int .i64 s.c.mode :: .bool s.c.over :: .int .i64 s.c.res :: .bool s.c.run :: uy :: uz :: uD :: uF :: uG :: uH :: uI :: uJ :: uK :: uM :: uN :: uO :: .bool s.given :: .bool s.minus :: .int .i64 s.arg :: .int .i64 s.yx :: .int .i64 s.Ox :: .int .i64 s.Qi :: .int .i64 s.nR :: .bool s.inn :: .int .i64 s.cls :: .int .i64 vJ :: .int .i64 vK :: .bool s.argues :: .bool s.lS :: .bool s.jc :: wO :: .bool s.whole :: .bool wQ :: []).toArray 58 (0, 0)) • kC tu s.c.L s.c.pt s.c.mark • lI uo s.c.E s.c.at_ • yK 1 uq (s.hl.length + 1) (strs (pz s.hl)) • Row 9 1 uw (s.hl.length + 1) (strs (oO s.hl s.c.tx)) • uQ .i64 wL (EF.map (·.1)) • yK 1 wM EF.length (EF.map (·.2.1)) • xU EF • jS ED s.hl s.base s.most • Row 143 3 wO s.put.length (wP.flatMap gJ.enc) • oK wP • FB s.inn s.hl s.was [uy, uz, uD, uF, uG, uH, uI, uJ, uK, uM, uN, uO] • F)) DK ?_ ?_
    ·rintro _ w27 HJ
     dsimp only [List.cons_append, List.nil_append]
     refine bT O (jT (DI HJ iW bH bY O (by omega)) ?_)
     rintro l28 w28 Rz
     refine fH O func165 (Lr Rz (fun W HW => (HW).o9) (by assumption) (by omega)) ?_
     rintro u29 w29 N9
     refine vI O (bT O (aT (kT ((N9).aJ) aB O) (aT (fZ O O) (jo O (fun h4 => ?_) (fun h4 => ?_)))))
     ·(try simp only [aG] at h4)
      have hE : s.yY k = 6 := by have h9 := h4; unfold aX.yY; rw [if_pos hin, if_neg hgood, if_pos (show 1024 < (s.uT k).length by unfold aX.uT; omega)]
      refine jE O (aC (dO results109 O ?_))
      have aiq := N9.f14.f14.f14.f14.f14.f14.f14.f14.f14.f14.f14.f14
      have air := V.fE (s := s) dS aiq
      exact ⟨by rw [hE], by unfold aX.zN; rw [if_neg (by rw [hE]; decide)]; exact air.f2.right.f2.right⟩
     ·(try simp only [aG] at h4)
      have hE : s.yY k = 0 := by have h9 := h4; unfold aX.yY; rw [if_pos hin, if_neg hgood, if_neg (show ¬ 1024 < (s.uT k).length by unfold aX.uT; omega)]
      have hshort : (s.uT k).length ≤ 1024 := by have h9 := h4; unfold aX.uT; omega
      refine gX (aI ?_)
      have ais := N9.f14.f14.f14.f14.f14.f14.f14.f14.f14.f14.f14.f14
      have ait := V.fE (s := s) dS ais
      refine aF (cO O (fH O func49 (Ll ait.f3.right.f2.f2) ?_))
      rintro _ w36 H36
      obtain ⟨t, ht, HT⟩ : ∃ t, s.dH false = t ∧ V w0 w36 (dY y t • kF 21 .i32 u29 (s.uT k) • F) := ⟨_, rfl, H36⟩
      obtain ⟨hfh, hft, hfp, hfL⟩ := TJ s false
      rw [ht] at hfh hft hfp hfL
      have hth : t.sQ = s.sQ := by unfold aX.sQ; rw [hfh, hft, hfp, hfL]
      have htp : t.put = [] := by rw [← ht]; exact (Lm s false).1
      have alJ : 0 ≤ k ∧ k < ((t.hl.length + 1 : Nat) : Int) ∧ (oO t.hl t.c.tx).length = t.hl.length + 1 := ⟨by omega, by rw [hfh]; omega, rC _ _⟩
      have alK : 0 ≤ t.c.place ∧ t.c.place < ((t.hl.length + 1 : Nat) : Int) := by rw [hfp, hfh]; omega
      have hset : (oO t.hl t.c.tx).set t.c.place.toNat s.sQ = oO t.hl (um t.c.tx t.c.place (some t.sQ)) := by
       have := acH t.hl t.c.tx (k := t.c.place.toNat) s.sQ (by omega)
       rw [Int.toNat_of_nonneg alK.1] at this
       rw [hth]; exact this
      have htold : (oO t.hl (um t.c.tx t.c.place (some t.sQ))).getD k.toNat .empty = fP t.hl (um t.c.tx t.c.place (some t.sQ)) k := by rw [EZ (by omega), Int.toNat_of_nonneg alJ.1]
      obtain ⟨ED, tu, uo, uq, uw, wL, wM, EF, wO, wP, vJ, vK, wQ, uy, uz, uD, uF, uG, uH, uI, uJ, uK, uM, uN, uO, dS, lF, fU⟩ := (HT).xq
      refine qG O (dM O (bg 1 aA O bZ O (bg 2 bf O mJ O (ku O O (fH O func166 (Zq fU.f5.f2 (by assumption) (by assumption) (by assumption)) ?_)))))
      rintro _ w38 ⟨rfl, Ve⟩
      have HT3 := Ve
      rw [hset] at HT3
      rw [hset, htold]
      refine cO O (xY O O (xY O O (lg O (vI O (bT O (aT (fF O O) (iR (Kq O (fun h5 => ?_)))))))))
      (try simp only [aG] at h5)
      refine gX (bT O (kY O O (bg 1 aA O bZ O (bg 5 bf O oM O (aH (kU 6 HT3 oM) ?_)))))
      rintro _ w39 H39
      refine qG O (ku O O (aT (kT ((H39.f13).aJ) aB O) ?_))
      refine aT (iT (zl := [.slice none 0 0, .int .i64 0, .int .i64 0]) (pl := [(0, 1), (1, 1), (2, 1)]) [_, _, _] bG zeroValue161 O (fun w => by kernel_rfl) O (.one (Rd.one ((H39.f13).aJ)) (.on (.on .nil))) O) ?_
      refine jT (kZ (l := [_, _, _]) H39 O O) ?_
      rintro _ w40 ⟨b40, rfl, H40⟩
      refine dM O (bg 1 aA O bZ O (bg 0 bf O kD O (aH (kU 1 H40.f2 kD) ?_)))
      rintro _ w41 H41
      refine qG O (kY O O (bg 40 aA O aN O (aH (kU 40 H41 aN) ?_)))
      rintro _ w42 H42
      refine dM O (bg 1 aA O bZ O (bg 11 bf O aN O (aH (kU 12 H42 aN) ?_)))
      rintro _ w43 H43
      refine iR (jE O (dO results109 O ?_))
      have HB := V.mO (L := s.uT k) (pt := (s.uT k).length) (mk := -1) hshort ⟨by omega, by omega⟩ ⟨by omega, by omega⟩ H43.f4.right.f12.f12.f12.f12.f12.f12.f12.f10.f12.f12.f11.f13.f13
      have aiA : t.sQ.size ≤ 16384 := by rw [hth]; exact ZM
      exact ⟨by rw [hE], by unfold aX.zN; rw [if_pos hE]; dsimp only; rw [ht]; exact V.fE (s := { t with whole := false, c := { t.c with tx := um t.c.tx t.c.place (some t.sQ), place := k, L := s.uT k, pt := (s.uT k).length, mark := -1, run := false } }) (dS.goto htp (by rw [hfh]; exact hgood) aiA) HB.f2⟩
    ·skip
     refine bT O (kY O O (bg 1 aA O bZ O (bg 2 bf O mJ O (bg 2 dL O ah O (dQ ay O (FK).get.2 O (aT (fA O O) (jo O (fun h6 => ?_) (fun h6 => ?_))))))))
     ·(try simp only [aG] at h6)
      have hkp : k = s.c.place := h6
      refine aF (cO O (lg O (dJ ?_)))
      refine ji (()) ?_ ?_ ?_
      ·exact (Sub.vG O (by first | (rw [if_pos hkp] <;> rfl) | (rw [if_neg hkp, ← hnk] <;> rfl)) (Sub.nil _))
      ·exact DK
      ·(try dsimp only)
       first | done | exact FK.f12.f12.f12.f12.f12.f12.f12.f9.f12.f12.f12.f12
     ·(try simp only [aG] at h6)
      have hkp : ¬ k = s.c.place := h6
      refine eG ?_
      refine ji (()) ?_ ?_ ?_
      ·exact (Sub.vG O (by first | (rw [if_pos hkp] <;> rfl) | (rw [if_neg hkp, ← hnk] <;> rfl)) (Sub.nil _))
      ·exact DK
      ·(try dsimp only)
       first | done | exact FK.f12.f12.f12.f12.f12.f12.f12.f9.f12.f12.f12.f12
end
theorem afe {n place k : Nat} (hp : place < n) (hk : k < n) : (((place : Int) + k).tmod n).toNat = if place + k < n then place + k else place + k - n := by
  rw [Int.tmod_eq_emod_of_nonneg (by omega)]
  split
  · rw [Int.emod_eq_of_lt (by omega) (by omega)]; omega
  · have : ((place : Int) + k) % n = place + k - n := by
      rw [show ((place : Int) + k) = (place + k - n) + n from by omega, Int.add_emod_right, Int.emod_eq_of_lt (by omega) (by omega)]
      omega
    rw [this]; omega
theorem aa7 {E : List (List Int)} {a k : Nat} (ha : a < E.length) (hk : k < E.length) : (kR E a).getD k [] = E.getD (if a + k < E.length then a + k else a + k - E.length) [] := by
  unfold kR
  simp only [List.getD_eq_getElem?_getD]
  by_cases h : a + k < E.length
  · rw [if_pos h, List.getElem?_append_left (by simp; omega), List.getElem?_drop]
  · rw [if_neg h, List.getElem?_append_right (by simp; omega)]
    simp only [List.length_drop]
    rw [List.getElem?_take, if_pos (by omega)]
    congr 2; omega
theorem V.ac1 {w0 w : World} {F : HP} {k : IntKind} {vs : List Value} {ls : List (List Int)} {j : Nat} (H : V w0 w (vH k vs ls • F)) (hj : j < ls.length) : V w0 w (uQ k (vs.getD j undef) (ls.getD j []) • vH k vs ls • F) := H.zU.I5 (qH (fun I h => h.2 j hj) _)
section
variable {w0 w : World} {F : HP} {p y : Nat} {E : List (List Int)} {place : Nat} {s : aX}
theorem TK (H : V w0 w (lI p E place • F)) (hE : E.length ≤ 60 ∧ (place < E.length ∨ place = 0) ∧ ∀ e ∈ E, e.length ≤ 1024) : iK prog 127 #[.pointer (some ⟨p, 0, none⟩)] w fun v w' => ∃ us, V w0 w' (Row 24 1 v E.length us • vH .i32 us (kR E place) • F) := by
 obtain ⟨u, HR⟩ := H.Pn
 obtain ⟨us, HR⟩ := HR.swap.ll
 obtain ⟨au, cu, rfl, -⟩ := (HR.aJ).form
 have hE1 : E.length ≤ 60 := hE.1
 have hul := HR.f2.XZ
 refine jl func127 ntmps127 ?_
 refine kG O (kG O (aI (kG O (bK ?_))))
 refine jh [(0, _)] (fun (⟨k, z⟩ : Nat × Value) => [(3, z), (4, .int .i64 (k : Int))]) (fun (⟨k, z⟩ : Nat × Value) W => k ≤ E.length ∧ ∃ zs, V w0 W (Row 24 1 z k zs • vH .i32 zs ((kR E place).take k) • Row 24 1 (.slice au E.length cu) E.length us • vH .i32 us E • gU p (.cells #[.slice au E.length cu, .int .i64 place] 115 (0, 0)) • F)) (fun (⟨k, z⟩ : Nat × Value) => E.length - k) ((0, .slice none 0 0)) rJ vV ⟨by omega, [], (HR.f3.f3.f3).Rh.iV none⟩ ?_
 rintro ⟨k, z⟩ w1 ⟨hk, zs, HL⟩
 dsimp only [List.cons_append, List.nil_append]
 refine aI (bT O (kY O O (bg 0 dD O gV O (dQ bF O (HL.f5).get.2 O (aT (fV ((HL.f3).aJ) bF O) (aT (fJ O O) (jo O (fun h1 => ?_) (fun h1 => ?_))))))))
 ·(try simp only [aG] at h1)
  refine gX (aI (bK ?_))
  have hkl : k < E.length := by omega
  have hpl : place < E.length := by have := hE.2.1; omega
  have acs := afe hpl hkl
  have hrl : (((place : Int) + k).tmod E.length).toNat < E.length := by rw [acs]; split <;> omega
  have am4 := Int.tmod_nonneg (a := (place : Int) + k) (E.length : Int) (by omega)
  have htb := Ku ((place : Int) + k) (show (0 : Int) < E.length by omega)
  have IB := HL.drew
  have nG := V.kp (IB.f5.f5.f5.f5.f5)
  refine tH [4, 8, 14, 18] nG O (fM 0 O nG O (fM 1 O nG O (jF 2 O nG O (eP 3 O nG 0 dD O gV O (iD 4 O nG (fun W hW => jk bF O ((Kp.h hW).f5).get.2 O) (fM 5 O nG O (jF 6 O nG O (eP 7 O nG 1 dD O ah O (iD 8 O nG (fun W hW => jk ay O ((Kp.h hW).f5).get.2 O) (fM 9 O nG O (iE 10 O nG (fun _ => gY O O (by omega)) (fM 11 O nG O (jF 12 O nG O (eP 13 O nG 0 dD O gV O (iD 14 O nG (fun W hW => jk bF O ((Kp.h hW).f5).get.2 O) (iE 15 O nG (fun _ => fV ((IB.f3).aJ) bF O) (iE 16 O nG (fun _ => LD O O (by omega)) ?_)))))))))))))))))
  obtain ⟨bu, ou, cu, eu⟩ := Rd.qX ((IB.f3).aJ) (by omega)
  cases eu
  refine iE 17 O nG (fun _ => dP bF bI O O (by omega)) ?_
  refine iD 18 O nG (fun W hW => fB (dG aB O) O (by first | exact Rd.yc (((Kp.h hW).f3).aJ) (by omega) | exact Rd.I8 (((Kp.h hW).f3).aJ) (by omega) | exact Rd.Ib (((Kp.h hW).f3).aJ) (by omega))) ?_
  refine QT (fun al3 aa8 => ?_)
  have F9 := IB.f4
  have Fq := (by have HE := F9.ac1 hrl; rw [← aa8] at HE; exact HE)
  refine lC 19 O (mX (vs := [_]) Fq bF bI pR O O O (by decide) (bD (by first | rfl | exact Rd.one ((by rw [aa8]; exact (Fq.f2).Dc (by omega)))) bW)) ?_
  rintro l5 w5 H5
  have zQ := V.kp (H5.f7.f7.f7.f7.f7.f7.f7)
  refine dX zQ (by kernel_rfl) ?_
  refine lC 20 O (gK H5.f4 bF Po O O O ((H5).aJ) (bD (by first | rfl | exact Rd.one ((by rw [aa8]; exact (H5.f3).Dc (by omega)))) bW) (by omega) (by omega)) ?_
  rintro l6 w6 H6
  have Wx := H6.f2.right
  have Ak := V.kp (Wx.f6.f6.f6.f6.f6.f6)
  refine dX Ak (by kernel_rfl) ?_
  have YW := Wx.f2.f4
  have QC := YW.U2
  have HS := QC.f5.f4.f5.f4.f5
  refine iE 21 O Ak (fun _ => eH O) (oH (aS (aZ (aF (cO O (aT (gY O O (by omega)) (lg O (dJ ?_))))))))
  refine fG ((k + 1, l6)) ?_ ?_ ?_ ?_
  ·exact vV
  ·exact rJ
  ·(try dsimp only)
   first | done | exact ⟨by omega, _, by rw [JI (d := []) (by rw [Hl]; exact hkl), aa7 hpl hkl, ← acs]; exact HS⟩
  ·(try dsimp only); omega
 ·(try simp only [aG] at h1)
  refine iZ (bC (bC (dK (aZ (bT O (iJ O (dO results127 O ?_)))))))
  obtain rfl : k = E.length := by omega
  have HZ := HL.f3.right.f3.right.f3.right.f2.f2
  rw [List.take_of_length_le (by rw [Hl]; exact Nat.le_refl _)] at HZ
  exact ⟨_, HZ⟩
end
end Go.Proofs.YtnhhmieghbfalaaGreatDoor
end
