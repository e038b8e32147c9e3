import Derived.Test.YtimndnfpcomhlaaGreatDoorZ4
import Derived.Test.YtimndnfpcomhlaaGreatDoorZ16
import Derived.Laws.IdiomStrings
import Derived.Test.YtimndnfpcomhlaaGreatDoorZ13
import Derived.Test.YtimndnfpcomhlaaGreatDoorZ11
import Derived.Test.YtimndnfpcomhlaaGreatDoorZ15
import Derived.Test.YtimndnfpcomhlaaGreatDoorZ9
set_option linter.unusedSimpArgs false
set_option linter.unusedVariables false
/- Texts of mine, joined, their names in short: Utf5 StrB EdG EdGo EEditG ETyM ETyM2 EdSt EKillM. -/
section
namespace Go.Proofs.YtimndnfpcomhlaaGreatDoor
open Go.RowKit
open _root_.Go.Proofs.Tryz
theorem Kz {b : List Int} (h : Jg b) (n : Nat) : Jg (b.drop n) := fun x hx => h x (List.mem_of_mem_drop hx)
theorem Wj {b : List Int} (h : wW b = false) : qY b = (65533, 1) := by unfold qY; rw [if_neg (by simp [h])]
theorem FI (l : List Int) (k : Nat) (h : k < l.length) : rY (l.take (k + 1)) = rY (l.take k) ++ Lib.encodeRuneZ (l.getD k 0) := by
  unfold rY
  rw [List.take_succ_eq_append_getElem h, List.flatMap_append, List.getD_eq_getElem?_getD, List.getElem?_eq_getElem h]
  simp
theorem KA (l : List Int) : (rY l).length ≤ 4 * l.length := by
  induction l with
  | nil => simp [rY]
  | cons x r ih =>
    have h1 : rY (x :: r) = Lib.encodeRuneZ x ++ rY r := by simp [rY]
    have := (Lib.encodeRuneZ_length x).2
    rw [h1, List.length_append, List.length_cons]
    omega
theorem Ya {l : List Int} (k : Nat) : (rY (l.take k)).length ≤ 4 * l.length := by
  have := KA (l.take k)
  rw [List.length_take] at this
  omega
def eP (l : List Int) : Prop := ∀ x ∈ l, -2147483648 ≤ x ∧ x < 2147483648
theorem ZX {l : List Int} (h : eP l) {k : Nat} (hk : k < l.length) : -2147483648 ≤ l.getD k 0 ∧ l.getD k 0 < 2147483648 := by
  rw [List.getD_eq_getElem?_getD, List.getElem?_eq_getElem hk]; exact h _ (List.getElem_mem hk)
section
variable {w0 w : World} {F : HP} {v : Value} {b l : List Int} {r x y : Int}
theorem ES (H : V w0 w F) (hT : DU w0) (hv : kP w0 F .u8 v b) (hb : Jg b) (hL : b.length ≤ 17179869184) : iU prog 68 #[v] w fun v' w' => V w0 w' (jR 21 .i32 v' (xQ b) • F) := by
 refine ji func68 ntmps68 ?_
 refine lZ O (lZ O (aO (bn ?_)))
 refine iR [] (fun (⟨v2, u, n⟩ : Value × Value × Nat) => [(0, v2), (3, u)]) (fun (⟨v2, u, n⟩ : Value × Value × Nat) W => ∃ b2 l2, (kP w0 F .u8 v2 b2 ∧ Jg b2 ∧ l2 ++ xQ b2 = xQ b ∧ l2.length + b2.length ≤ b.length ∧ b2.length = n) ∧ V w0 W (jR 21 .i32 u l2 • F)) (fun (⟨v2, u, n⟩ : Value × Value × Nat) => n) ((v, .slice none 0 0, b.length)) (Sub.nil _) vT ⟨b, [], ⟨hv, hb, O, by simp, O⟩, (H).jH none⟩ ?_
 rintro ⟨v2, u, n⟩ w1 ⟨b2, l2, ⟨hv2, hb2, hr2, hl2, hn2⟩, HL⟩
 dsimp only [List.cons_append, List.nil_append]
 refine aO (bM O (aV (rX (hv2 _ (HL.right)) bH O) (aV (fZ O O) (kK O (fun h1 => ?_) (fun h1 => ?_)))))
 ·(try simp only [aH] at h1)
  refine iq (bn (aO ?_))
  have hne : b2 ≠ [] := by rintro rfl; simp at *
  have hd := DT hne
  refine aC (cZ O (dZ O func105 (Qw HL hT (fun W HW => hv2 _ (HW.right)) (by assumption) (by assumption)) ?_))
  rintro _ w2 ⟨rfl, H2⟩
  refine cZ O (rO O O (rO O O (lU O (gY O (bM O (cZ O (jL (jO (k := .i32) (l := [_]) H2 aG jr zeroValue21 O O O (by decide)) ?_)))))))
  rintro l3 w3 H3
  refine jL (gy H3.f2 ((H3).aP) aG abq O O (by first | omega | (simp only [List.length_append, List.length_nil, List.length_cons]; omega) | (simp; omega)) (by first | omega | (simp only [List.length_append, List.length_nil, List.length_cons]; omega) | (simp; omega))) ?_
  rintro l4 w4 H4
  try simp only [List.nil_append] at H4
  refine gY O (aC (mQ O O (aV (yx (hv2 _ (H4.right.right)) bH jl O O O (by omega)) ?_)))
  refine lU O (bY (aN ?_))
  refine fG (_, _, _) vT (Sub.nil _) (by (try dsimp only); exact ⟨_, _, ⟨fun W HW => mM.from (hv2 W HW) hd.2.1, Kz hb2 _, by rw [← hr2, E8 hne, List.append_assoc]; rfl, by rw [List.length_append, List.length_drop]; simp only [List.length_cons, List.length_nil]; omega, O⟩, H4.f2.right⟩) ?_
  ·(try dsimp only); rw [List.length_drop]; omega
 ·(try simp only [aH] at h1)
  refine iJ (aX (aX (dA (bg (bM O (iW O (fB results68 O ?_)))))))
  obtain rfl : b2 = [] := List.eq_nil_of_length_eq_zero (by omega)
  rw [GR, List.append_nil] at hr2
  subst hr2
  exact HL
theorem TU (H : V w0 w F) (hv : kP w0 F .i32 v l) (hl : eP l) (hL : l.length ≤ 17179869184) : iU prog 106 #[v] w fun v' w' => V w0 w' (jR 5 .u8 v' (rY l) • F) := by
 refine ji func106 ntmps106 ?_
 refine lZ O (lZ O (aO (bM O (aV (rX (hv _ (H)) aG O) (cZ O (iT (bn ?_)))))))
 refine iR [(6, _), (7, _)] (fun (⟨k, u⟩ : Nat × Value) => [(8, .int .i64 (k : Int)), (3, u)]) (fun (⟨k, u⟩ : Nat × Value) W => k ≤ l.length ∧ V w0 W (jR 5 .u8 u (rY (l.take k)) • F)) (fun (⟨k, u⟩ : Nat × Value) => l.length - k) ((0, .slice none 0 0)) vT vT ⟨by omega, (H).jH none⟩ ?_
 rintro ⟨k, u⟩ w1 ⟨hk, HL⟩
 dsimp only [List.cons_append, List.nil_append]
 refine jg (aV (fJ O O) (qj (bI O (fun h1 => ?_) (fun h1 => ?_))))
 ·(try simp only [aH] at h1)
  refine iq (aO (bn (aO ?_)))
  have hkl : k < l.length := by omega
  have hbb := Ya (l := l) k
  have hrr := ZX hl hkl
  refine aC ?_
  obtain ⟨bv, ov, cv, ev⟩ := mM.vS (hv _ (HL.right)) (by omega)
  cases ev
  refine aV (gU aG jr O O (by omega)) ?_
  refine aV (jM (fK fH O) O (by first | exact mM.GI (hv _ (HL.right)) (by omega) | exact mM.Xx (hv _ (HL.right)) (by omega) | exact mM.Xb (hv _ (HL.right)) (by omega))) ?_
  refine tJ O (bM O (dZ O func116 (Zc) ?_))
  rintro _ _ ⟨rfl, rfl⟩
  refine aV (oO O) (kK O (fun h2 => ?_) (fun h2 => ?_))
  ·(try simp only [aH] at h2)
   have henc : Lib.encodeRuneZ (l.getD k 0) = Lib.encodeRuneZ 65533 := by rw [TT (by simpa using h2)]; rfl
   refine aC (gY O (aC (mQ O O (dZ O func117 (Ej HL (by omega) (by omega)) ?_))))
   rintro u3 w3 H3
   refine lU O (bY (aN (bg (aC (aV (gX O O (by omega)) (cZ O (bY ?_)))))))
   refine fG ((k + 1, u3)) ?_ ?_ ?_ ?_
   ·exact vT
   ·exact vT
   ·(try dsimp only)
    first | done | exact ⟨by omega, by rw [FI l k hkl]; first | exact H3 | (rw [henc]; exact H3)⟩
   ·(try dsimp only); omega
  ·(try simp only [aH] at h2)
   refine iq (aC (mQ O O (dZ O func117 (Ej HL (by omega) (by omega)) ?_)))
   rintro u4 w4 H4
   refine lU O (bY (aN (bg (aC (aV (gX O O (by omega)) (cZ O (bY ?_)))))))
   refine fG ((k + 1, u4)) ?_ ?_ ?_ ?_
   ·exact vT
   ·exact vT
   ·(try dsimp only)
    first | done | exact ⟨by omega, by rw [FI l k hkl]; first | exact H4 | (rw [henc]; exact H4)⟩
   ·(try dsimp only); omega
 ·(try simp only [aH] at h1)
  refine iJ (aX (aX (dA (bg (bM O (iW O (fB results106 O ?_)))))))
  obtain rfl : k = l.length := by omega
  rw [List.take_length] at HL
  exact HL
end
end Go.Proofs.YtimndnfpcomhlaaGreatDoor
end
section
namespace Go.Proofs.YtimndnfpcomhlaaGreatDoor
open Go.RowKit
def KC (l : List Int) : ByteArray := l.foldl (fun s n => s.push (UInt8.ofNat n.toNat)) .empty
theorem Qx (l : List Int) : KC l = ⟨(l.map fun n => UInt8.ofNat n.toNat).toArray⟩ := by
  have key : ∀ (l : List Int) (s : ByteArray), l.foldl (fun s n => s.push (UInt8.ofNat n.toNat)) s = ⟨s.data ++ (l.map fun n => UInt8.ofNat n.toNat).toArray⟩ := by
    intro l
    induction l with
    | nil => intro s; simp
    | cons x r ih =>
      intro s
      rw [List.foldl_cons, ih]
      simp [ByteArray.push]
  unfold KC
  rw [key]
  simp
def zI (s : ByteArray) : List Int := s.data.toList.map fun b => (b.toNat : Int)
theorem uM (s : ByteArray) : (zI s).length = s.size := by unfold zI; simp
theorem BN (s : ByteArray) : ∀ x ∈ zI s, 0 ≤ x ∧ x < 256 := by
  intro x hx
  obtain ⟨b, _, rfl⟩ := List.mem_map.1 hx
  have := b.toNat_lt
  omega
section
variable {P : Program} {L : List (Nat × Value)} {w0 w : World} {F : HP} {ty : TypeId} {x : Operand}
theorem OE {src dst e : TypeId} {v : Value} {l : List Int} (hs : P.underlying src = some (.slice e)) (hd : P.underlying dst = some .string) (he : P.underlying e = some (.int .u8)) (hx : ev L x = some v) (hr : mM w .u8 v l) :
    Val P L (.convert src dst x) ty w (.string (KC l)) w := fun ρ hρ _ _ _ _ => by
  obtain ⟨a, c, rfl, _, _, hc⟩ := Rd.cells (P := P) hr
  have loop : ∀ (f : Value → ByteArray → Sem (ForInStep ByteArray)), (∀ n s, f (.int .u8 n) s = pure (ForInStep.yield (s.push (UInt8.ofNat n.toNat)))) → ∀ (l : List Int) (s : ByteArray), (forIn (m := Sem) (l.map (Value.int .u8)).toArray s f).run P w = .ok (l.foldl (fun s n => s.push (UInt8.ofNat n.toNat)) s) w := by
    intro f hf l
    induction l with
    | nil => intro s; rfl
    | cons x l ih => intro s; simp [hf] at ih ⊢; try exact ih _
  have h1 : (Conv.bytesToString (.slice a l.length c)).run P w = .ok (.string (KC l)) w := by
    unfold Conv.bytesToString
    cases a with
    | none =>
      have : l = [] := by
        cases l with
        | nil => rfl
        | cons x l =>
          obtain ⟨_, _, e, _, _, hh⟩ := hr.open
          cases e
          obtain ⟨_, _, e, _⟩ := hh (by simp)
          cases e
      subst this; rfl
    | some a =>
      have h2 : (loadCells a l.length).run P w = .ok (l.map (Value.int .u8)).toArray w := by simpa [Builtin.firstCells] using hc
      simp only [Sem.run_bind, h2, Result.andThen_ok]
      rw [loop]
      · rfl
      · intro n s; rfl
  simp [execOp, hρ _ _ hx, convert, run_underlying hs, run_underlying hd, run_underlying he, h1]
theorem AY {src dst e : TypeId} {s : ByteArray} (H : V w0 w F) (hs : P.underlying src = some .string) (hd : P.underlying dst = some (.slice e)) (he : P.underlying e = some (.int .u8)) (hx : ev L x = some (.string s)) (h63 : (s.size : Int) ≤ 4611686018427387904) :
    vP P L (.convert src dst x) ty w fun v w' => V w0 w' (FU .u8 v (zI s) • F) := by
  have hge := grownCap_ge w s.size 0 e
  refine um (v := .slice (some ⟨w.heap.size, 0, none⟩) s.size (grownCap w s.size 0 e)) (w' := w.drew.alloc (.cells (bytesRow s (grownCap w s.size 0 e)) e ((bytesRow s (grownCap w s.size 0 e)).size, (bytesRow s (grownCap w s.size 0 e)).size + 1))) ?_ ?_
  · intro ρ hρ d pos nY g
    simp only [execOp, hρ _ _ hx, Sem.run_bind, run_bytes_of_string w src dst e s hs hd he]
    rfl
  · refine (H.drew.alloc _).freeze.F7 (tN (fun I hI => ?_) F)
    refine ⟨some ⟨w.heap.size, 0, none⟩, grownCap w s.size 0 e, by rw [uM], by rw [uM]; exact hge, Ap w _ _ _ (by omega), fun _ => ⟨w.heap.size, 0, _, _, _, rfl, hI, fun j hj => ?_⟩⟩
    rw [uM] at hj
    unfold bytesRow zI
    rw [Nat.zero_add, Array.getElem?_append_left (by simpa using hj)]
    simp [List.getD_eq_getElem?_getD]
    have hj2 : j < s.data.size := hj
    exact ⟨s.data[j], Array.getElem?_eq_getElem hj2, by rw [Array.getElem?_eq_getElem hj2]; rfl⟩
end
end Go.Proofs.YtimndnfpcomhlaaGreatDoor
end
section
namespace Go.Proofs.YtimndnfpcomhlaaGreatDoor
open Go.RowKit
open _root_.Go.Proofs.Tryz
def Du (hl : List qE) (tx : Int → Option ByteArray) (place : Int) (L : List Int) : ByteArray := if xQ (zI (jT hl tx place)) = L then jT hl tx place else KC (rY L)
theorem xJ {hl : List qE} {tx : Int → Option ByteArray} (h1 : ∀ x ∈ hl, XR x) (h2 : ∀ k t, tx k = some t → t.size ≤ 16384) (k : Int) : (jT hl tx k).size ≤ 16384 := by
  unfold jT
  cases h : tx k with
  | some t => exact h2 k t h
  | none =>
    show (BG hl k).size ≤ 16384
    unfold BG Qc
    split
    · rename_i hk
      rw [List.getD_eq_getElem?_getD, List.getElem?_eq_getElem (by omega)]
      exact (h1 _ (List.getElem_mem _)).1
    · simp
section
variable {w0 w : World} {F : HP} {e pb pw pt ph : Nat} {L : List Int} {ZW mk place base most : Int} {tx : Int → Option ByteArray} {hl : List qE}
theorem FK {x1 x3 x4 x5 x6 x7 x8 x9 x10 x12 yV x14 x15 x16 x17 x18 x19 x20 x21 zM x23 x24 x25 zN x27 x28 x29 x30 x31 x32 Bq : Value} (H : V w0 w (dR e (.cells (.pointer (some ⟨pb, 0, none⟩) :: x1 :: .pointer (some ⟨pw, 0, none⟩) :: x3 :: x4 :: x5 :: x6 :: x7 :: x8 :: x9 :: x10 :: .pointer (some ⟨ph, 0, none⟩) :: x12 :: yV :: x14 :: x15 :: x16 :: x17 :: x18 :: x19 :: x20 :: x21 :: zM :: x23 :: x24 :: x25 :: zN :: x27 :: x28 :: x29 :: x30 :: x31 :: x32 :: Bq :: []).toArray 69 (0, 0)) • fF pb L ZW mk • dR pw (.cells #[.int .i64 place, .map (some pt)] 81 (0, 0)) • iI qH pt (qI tx) • gK ph hl base most • F))
  (hT : DU w0) (hR : eP L) (hsz : (jT hl tx place).size ≤ 16384) :
  iU prog 69 #[.pointer (some ⟨e, 0, none⟩)] w fun v' w' => v' = .string (Du hl tx place L) ∧ V w0 w' (dR e (.cells (.pointer (some ⟨pb, 0, none⟩) :: x1 :: .pointer (some ⟨pw, 0, none⟩) :: x3 :: x4 :: x5 :: x6 :: x7 :: x8 :: x9 :: x10 :: .pointer (some ⟨ph, 0, none⟩) :: x12 :: yV :: x14 :: x15 :: x16 :: x17 :: x18 :: x19 :: x20 :: x21 :: zM :: x23 :: x24 :: x25 :: zN :: x27 :: x28 :: x29 :: x30 :: x31 :: x32 :: Bq :: []).toArray 69 (0, 0)) • fF pb L ZW mk • dR pw (.cells #[.int .i64 place, .map (some pt)] 81 (0, 0)) • iI qH pt (qI tx) • gK ph hl base most • F) := by
 have hbz : (zI (jT hl tx place)).length ≤ 17179869184 := by rw [uM]; omega
 have hbi : Jg (zI (jT hl tx place)) := BN _
 have hLl : L.length ≤ 1024 := by obtain ⟨a, c, xs, f, t, h1, h2, h3, h4, h5, h6, h7, hc1, hc2, hl, H1⟩ := (H.f2).buf; exact h4
 refine ji func69 ntmps69 ?_
 refine lZ O (aO (bM O (ny O O (bf 0 ah O aJ O (bf 2 aA O kJ O (dQ iM O (H).get.2 O (dM O (bf 0 dP O aj O (dQ ay O (H.f3).get.2 O (dZ O func70 (rJ H.f5.f5.f5.f4) ?_))))))))))
 rintro _ w1 ⟨rfl, H1⟩
 refine tJ O ?_
 have TR := H1.drew
 have qc := V.kp (TR.f5.f5.f5.f5.f5)
 refine xP [7] qc O (jc 0 O qc O (jc 3 O qc O (kN 4 O qc O (fV 5 O qc 0 ah O aJ O (fV 6 O qc 0 aA O iD O (jq 7 O qc (fun W hW => jV dU O ((Kp.h hW)).get.2 O) (mP 1 O (AY TR kG bH dn O (by omega)) ?_)))))))
 rintro l2 w2 H2
 have NJ := V.kp (H2.f6.f6.f6.f6.f6.f6)
 refine dK NJ (fun W hW => (Kp.h hW).right.f5.f5.f5.f5.f5) ?_
 refine mP 2 O (wu O func68 (ES H2 (by assumption) (fun W HW => (HW).CY) (by assumption) (by omega))) ?_
 rintro u3 w3 H3
 have wG := V.kp (H3.f7.f7.f7.f7.f7.f7.f7)
 refine dK wG (fun W hW => (Kp.h hW).right.f6.f6.f6.f6.f6.f6) ?_
 refine mP 8 O (wu O func59 (oK H3.f7)) ?_
 rintro u4 w4 H4
 have kW := V.kp (H4.f8.f8.f8.f8.f8.f8.f8.f8)
 refine iC kW (by kernel_rfl) ?_
 refine mP 9 O (wu O func104 (JV _ _ _ _ _ ((H4.f3).aP) ((H4).aP))) ?_
 rintro _ w5 ⟨rfl, hD5⟩
 have HD5 := H4.qW hD5
 have Dc := V.kp (HD5.f8.f8.f8.f8.f8.f8.f8.f8)
 refine iC Dc (by kernel_rfl) ?_
 refine qp (bg (bI O (fun h1 => ?_) (fun h1 => ?_)))
 ·(try simp only [aH] at h1)
  have hq := h1
  refine bM O (iW O (aK (fB results69 O ?_)))
  exact ⟨by unfold Du; rw [if_pos hq], HD5.right.f2.right.f2.right.f5.f5.f5.f4.f5⟩
 ·(try simp only [aH] at h1)
  have hq := h1
  refine iq (bM O (dM O (bf 0 ah O aJ O (bf 0 aA O iD O (dQ dU O (HD5.f5).get.2 O (dZ O func59 (oK HD5.f2) ?_))))))
  rintro u6 w6 H6
  refine dZ O func106 (TU H6 (fun W HW => (HW).aP) (by assumption) (by omega)) ?_
  rintro u7 w7 H7
  refine aV (OE bH kG dn O ((H7).aP)) (iW O (fB results69 O ?_))
  exact ⟨by unfold Du; rw [if_neg hq], H7.right.right.f2.right.f2.right.f2.right.f5.f5.f5.f4.f5⟩
end
namespace aY
variable (s : aY)
def yU : ByteArray := Du s.hl s.c.tx s.c.place s.c.L
def vX (k : Int) : List Int := xQ (zI (if k = s.c.place then s.yU else s.stands k))
def zW (k : Int) : Int := if s.inn then (if k < 0 ∨ s.hl.length < k then 6 else if 1024 < (s.vX k).length then 6 else 0) else 1
def zX (k : Int) : aY :=
  if s.zW k = 0 then
    let t := s.cO false
    { t with whole := false, c := { t.c with tx := vF t.c.tx t.c.place (some t.yU), place := k, L := s.vX k, pt := (s.vX k).length, mark := -1, run := false } }
  else s
end aY
theorem KD {s : aY} (h : LU s.hl s.c) (hl : ∀ x ∈ s.hl, XR x) (hL : s.c.L.length ≤ 1024) : s.yU.size ≤ 16384 := by
  unfold aY.yU Du
  split
  · exact xJ hl h.2.2 _
  · have h1 := KA s.c.L
    have h2 : (KC (rY s.c.L)).size = (rY s.c.L).length := by rw [Qx]; show (((rY s.c.L).map fun n => UInt8.ofNat n.toNat).toArray).size = _; simp
    rw [h2]; omega
theorem Qy (s : aY) (on : Bool) : (s.cO on).hl = s.hl ∧ (s.cO on).c.tx = s.c.tx ∧ (s.cO on).c.place = s.c.place ∧ (s.cO on).c.L = s.c.L := by
  unfold aY.cO; split <;> exact ⟨rfl, rfl, rfl, rfl⟩
theorem Wn (tx : Int → Option ByteArray) (k : Int) (b : ByteArray) : upd (qI tx) k (.string b) = qI (vF tx k (some b)) := by
  funext x
  unfold upd qI vF
  split <;> rfl
theorem V.Wp {w0 w : World} {F : HP} {b : Nat} {U : Int → List (List gV)} (H : V w0 w (vW b U • F)) (k : Int) : gI (U k) [] ≤ 16384 := by
  obtain ⟨D, P, h1, h2, H1⟩ := H.Vx
  by_cases hk : k ∈ D
  · have H2 := H1.Vy h1 h2 hk
    obtain ⟨gv, nv, gs, now, k1, _⟩ := H2.wB
    exact k1.2.1
  · rw [h2 k hk]; decide
theorem TV (s : aY) (on : Bool) : (s.cO on).put = [] := by
  unfold aY.cO; split
  · assumption
  · rfl
theorem Yb {t : aY} {k : Int} {l : List Int} (h : oV t) (hp : t.put = []) (hk : ¬ (k < 0 ∨ (t.hl.length : Int) < k)) (hh : t.yU.size ≤ 16384) (hu : gI (t.c.un k) [] ≤ 16384) :
    oV { t with whole := false, c := { t.c with tx := vF t.c.tx t.c.place (some t.yU), place := k, L := l, pt := l.length, mark := -1, run := false } } := by
  obtain ⟨h1, h2, h3, h4, h5, h6⟩ := h
  refine ⟨⟨by show 0 ≤ k; omega, by show k ≤ t.hl.length; omega, fun x b hb => ?_⟩, h2, h3, h4, ?_, h6⟩
  · by_cases hx : x = t.c.place
    · subst hx
      have : some t.yU = some b := (gZ t.c.tx t.c.place (some t.yU)).symm.trans hb
      cases this; exact hh
    · exact h1.2.2 x b ((vG t.c.tx (some t.yU) hx).symm.trans hb)
  · show gI (t.c.un k) t.put ≤ 16384
    rw [hp]; exact hu
section
variable {w0 w : World} {F : HP} {e : Nat} {s : aY} {k : Int}
theorem OG (H : V w0 w (eH e s • F)) (hT : DU w0) (hR : eP s.c.L) : iU prog 30 #[.pointer (some ⟨e, 0, none⟩), .int .i64 k] w fun v w' => v = .int .i64 (s.zW k) ∧ V w0 w' (eH e (s.zX k) • F) := by
 refine oP func30 ntmps30 ?_
 refine lZ O (aO (bM O (dZ O func32 (jm H) ?_)))
 rintro _ _ ⟨rfl, rfl⟩
 refine gY O (bM O (aV (dO O O) (kK O (fun h1 => ?_) (fun h1 => ?_))))
 ·(try simp only [aH] at h1)
  obtain ⟨hin, hpe⟩ := rQ h1
  refine bM O (iW O (aK (fB results30 O ?_)))
  rw [hpe]
  exact ⟨by simp [aY.zW, aY.zX, hin], by rw [show s.zX k = s from by simp [aY.zW, aY.zX, hin]]; exact H⟩
 ·(try simp only [aH] at h1)
  have hin := oW h1
  refine iq (aO (aO ?_))
  obtain ⟨qV, rC, rD, rZ, rE, rF, rG, rH, qA, oZ, o7, o8, o9, pq, pz, pF, pG, pI, pJ, pK, dV, bP, jh, dY⟩ := (H).Dy
  obtain ⟨hv9, hk9, _⟩ := (dY.f7).hist
  have hLl : s.c.L.length ≤ 1024 := by obtain ⟨a, c, xs, f, t, h1, h2, h3, h4, h5, h6, h7, hc1, hc2, hl, H1⟩ := (dY.f2).buf; exact h4
  have hcl := hk9.1
  refine aC (cZ O (aV (fJ O O) (qC O (fun h2 => ?_) (fun h2 => ?_))))
  ·(try simp only [aH] at h2)
   have hbad : k < 0 ∨ (s.hl.length : Int) < k := .inl h2
   refine dH (dH (dH (dH (dH (dH (dH (pW O O (iT (EY (lF O (aK (fB results30 O ?_))))))))))))
   have hE : s.zW k = 6 := by unfold aY.zW; rw [if_pos hin, if_pos (by omega)]
   have U8 := dY.f11.f11.f11.f11.f11.f11.f11.f11.f11.f11.f11
   have U9 := V.eY (s := s) dV bP U8
   exact ⟨by rw [hE], by unfold aY.zX; rw [if_neg (by rw [hE]; decide)]; exact U9⟩
  ·(try simp only [aH] at h2)
   refine bU (cZ O (bU (cZ O (bU (dM O (bU (bf 11 ah O sizeOf48 O (bU (dQ lC O (dY).get.2 O (bU (dZ O func67 (nN dY.f7) ?_)))))))))))
   rintro _ w6 ⟨rfl, H6⟩
   refine bU (aV (fZ O O) (lV O O (kK O (fun h3 => ?_) (fun h3 => ?_))))
   ·(try simp only [aH] at h3)
    have adf := h3
    refine lF O (aK (fB results30 O ?_))
    have hE : s.zW k = 6 := by unfold aY.zW; rw [if_pos hin, if_pos (by omega)]
    have ZQ := H6.f11.f11.f11.f11.f5.f11.f11.f11.f11.f11.f11
    have Xg := V.eY (s := s) dV bP ZQ
    exact ⟨by rw [hE], by unfold aY.zX; rw [if_neg (by rw [hE]; decide)]; exact Xg⟩
   ·(try simp only [aH] at h3)
    have hgood : ¬ (k < 0 ∨ (s.hl.length : Int) < k) := by have h9 := h3; omega
    refine iq (aO ?_)
    have hsz : (jT s.hl s.c.tx s.c.place).size ≤ 16384 := xJ hk9.2.2.2.2.2 dV.1.2.2 _
    have hsk : (jT s.hl s.c.tx k).size ≤ 16384 := xJ hk9.2.2.2.2.2 dV.1.2.2 _
    have Tv : s.yU.size ≤ 16384 := KD dV.1 hk9.2.2.2.2.2 hLl
    unfold aY.yU at Tv
    have hb1 := BN (Du s.hl s.c.tx s.c.place s.c.L)
    have hb2 := BN (jT s.hl s.c.tx k)
    have hb3 := uM (Du s.hl s.c.tx s.c.place s.c.L)
    have hb4 := uM (jT s.hl s.c.tx k)
    refine aC (cZ O (dZ O func69 (FK H6.f6.f6.f5.f5 (by assumption) (by assumption) (by assumption)) ?_))
    rintro _ w10 ⟨rfl, sV⟩
    refine jL (AY sV kG bH dn O (by omega)) ?_
    rintro l11 I9 yt
    refine dZ O func68 (ES yt (by assumption) (fun W HW => (HW).CY) (by assumption) (by omega)) ?_
    rintro u12 w12 wz
    refine gY O ?_
    refine Dz [(0, _), (1, _)] (fun (u : Value) => [(6, u)]) (fun (u : Value) W => V w0 W (jR 21 .i32 u (s.vX k) • eH e s • F)) vT ?_ ?_
    ·rintro u O8 HJ
     dsimp only [List.cons_append, List.nil_append]
     refine aO (bM O (aV (rX ((HJ).aP) aG O) (aV (fZ O O) (kK O (fun h4 => ?_) (fun h4 => ?_)))))
     ·(try simp only [aH] at h4)
      have hE : s.zW k = 6 := by have h9 := h4; unfold aY.zW; rw [if_pos hin, if_neg hgood, if_pos (by omega)]
      refine lF O (aK (fB results30 O ?_))
      exact ⟨by rw [hE], by unfold aY.zX; rw [if_neg (by rw [hE]; decide)]; exact HJ.right⟩
     ·(try simp only [aH] at h4)
      have hE : s.zW k = 0 := by have h9 := h4; unfold aY.zW; rw [if_pos hin, if_neg hgood, if_neg (by omega)]
      have hshort : (s.vX k).length ≤ 1024 := by have h9 := h4; omega
      refine iq (bM O (dZ O func34 (nP HJ.f2) ?_))
      rintro _ MK yu
      obtain ⟨t, ht, HT⟩ : ∃ t, s.cO false = t ∧ V w0 MK (eH e t • jR 21 .i32 u (s.vX k) • F) := ⟨_, rfl, yu⟩
      obtain ⟨hfh, hft, hfp, hfL⟩ := Qy s false
      rw [ht] at hfh hft hfp hfL
      obtain ⟨qV, rC, rD, rZ, rE, rF, rG, rH, qA, oZ, o7, o8, o9, pq, pz, pF, pG, pI, pJ, pK, dV, bP, jh, dY⟩ := (HT).Dy
      have hR2 : eP t.c.L := by rw [hfL]; exact hR
      have hsz2 : (jT t.hl t.c.tx t.c.place).size ≤ 16384 := by rw [hfh, hft, hfp]; exact xJ hk9.2.2.2.2.2 (hft ▸ dV.1.2.2) _
      refine qj ?_
      have Wq := dY.drew
      have ni := V.kp (Wq.f7.right.f11.f11.f11.f11.f11.f11.f11.f11.f11.f11.f11)
      refine xP [4, 7, 12, 15] ni O (jc 0 O ni O (kN 1 O ni O (fV 2 O ni 0 ah O aJ O (fV 3 O ni 2 aA O kJ O (jq 4 O ni (fun W hW => jV iM O ((Kp.h hW)).get.2 O) (kN 5 O ni O (fV 6 O ni 1 dP O sizeOf79 O (jq 7 O ni (fun W hW => jV mJ O ((Kp.h hW).f4).get.2 O) (jc 8 O ni O (kN 9 O ni O (fV 10 O ni 0 ah O aJ O (fV 11 O ni 2 aA O kJ O (jq 12 O ni (fun W hW => jV iM O ((Kp.h hW)).get.2 O) (kN 13 O ni O (fV 14 O ni 0 dP O aj O (jq 15 O ni (fun W hW => jV ay O ((Kp.h hW).f4).get.2 O) (jc 16 O ni O (mP 17 O (wu O func69 (FK Wq.f7.f6.f6.f5.f5 (by assumption) (by assumption) (by assumption))) ?_))))))))))))))))))
      rintro _ w16 ⟨rfl, uO⟩
      have D7 := V.kp (uO.f12.f12.f12.f12.f12.f12.f12.f12.f12.f12.f12.f12)
      refine dK D7 (fun W hW => (Kp.h hW).f5.right.f11.f11.f11.f11.f11.f11.f10.f10.f11.f11.f11) ?_
      refine eF 18 O (by kernel_rfl) (xG uO.f4 mJ ay O O O) ?_
      rintro _ Xc Dx
      have Fh := V.kp (Dx.f12.f12.f12.f12.f12.f12.f12.f12.f12.f12.f12.f12)
      refine iC Fh (by kernel_rfl) ?_
      refine qp (bg (bM O (dM O (bf 0 ah O aJ O (bf 2 aA O kJ O (dQ iM O (Dx.f2).get.2 O (ny O O (bf 0 dP O aj O (aI (st2 0 Dx.f4 aj) ?_)))))))))
      rintro _ Xd Es
      refine sU O (cZ O (dZ O func71 (Fa Es (fun W HW => (HW.f12).aP) hshort) ?_))
      rintro _ Xf ⟨p19, rfl, zO⟩
      refine cZ O (rO O O (rO O O (dM O (bf 0 ah O aJ O (bf 0 aA O iD O (aI (dN 0 zO.f4 iD) ?_))))))
      rintro _ XJ BD
      refine sU O (ny O O (bf 32 ah O aQ O (aI (dN 32 BD aQ) ?_)))
      rintro _ XK sW
      refine dM O (bf 0 ah O aJ O (bf 10 aA O aQ O (aI (dN 10 sW aQ) ?_)))
      rintro _ w22 Gi
      refine iT (lF O (fB results30 O ?_))
      have hut := (Gi.f8).Wp k
      have acP : t.yU.size ≤ 16384 := KD dV.1 (hfh ▸ hk9.2.2.2.2.2) (by rw [hfL]; exact hLl)
      have HQ := Gi.f5.right.f12.right.f11.f11.f11.f11.f9.f11.f10.f10.f11.f11.f11
      rw [Wn] at HQ
      exact ⟨by rw [hE], by unfold aY.zX; rw [if_pos hE]; dsimp only; rw [ht]; exact V.eY (s := { t with whole := false, c := { t.c with tx := vF t.c.tx t.c.place (some t.yU), place := k, L := s.vX k, pt := (s.vX k).length, mark := -1, run := false } }) (Yb dV (ht ▸ TV s false) (hfh ▸ hgood) acP hut) bP HQ⟩
    ·skip
     refine bM O (ny O O (bf 0 ah O aJ O (bf 2 aA O kJ O (dQ iM O (wz.f3).get.2 O (dM O (bf 0 dP O aj O (dQ ay O (wz.f5).get.2 O (aV (dO O O) (kK O (fun h5 => ?_) (fun h5 => ?_))))))))))
     ·(try simp only [aH] at h5)
      have hkp : ¬ k = s.c.place := h5
      refine aC (mQ O O (dZ O func70 (rJ wz.f7.f7.f7.f6) ?_))
      rintro _ UZ ⟨rfl, xu⟩
      refine jL (AY xu kG bH dn O (by omega)) ?_
      rintro l24 w24 JW
      refine dZ O func68 (ES JW (by assumption) (fun W HW => (HW).CY) (by assumption) (by omega)) ?_
      rintro u25 w25 JX
      refine lU O ?_
      have acQ := JX.f15.f15.f15.f15.f10.f15.f11.f11.f15.f15.f13
      have abr := V.eY (s := s) dV bP acQ
      refine bY ?_
      refine nJ (_) sJ vT (by (try dsimp only); exact by unfold aY.vX; first | (rw [if_pos hkp]; exact abr.f3.right.f3.right.f3.right.f2) | (rw [if_neg hkp]; exact abr.f3.right.f3.right.f3.right.f2))
     ·(try simp only [aH] at h5)
      have hkp : k = s.c.place := by have h9 := h5; simpa using h9
      have acR := wz.f13.f13.f13.f13.f11.f13.f12.f12.f13.f13.f13
      have abt := V.eY (s := s) dV bP acR
      refine fU ?_
      refine nJ (_) sJ vT (by (try dsimp only); exact by unfold aY.vX; first | (rw [if_pos hkp]; exact abt.f3.right.f2) | (rw [if_neg hkp]; exact abt.f3.right.f2))
end
def aY.FM (s : aY) (p : CO) : aY := if p.kd = 13 then s.zX p.a else s.edit p
section
variable {w0 w : World} {F : HP} {e : Nat} {s : aY} {v : Value} {p : CO}
theorem L6 (H : V w0 w (eH e s • F)) (hk : p.kd = 13) (hT : DU w0) (hR : eP s.c.L) (hv1 : v.oneCell' = true) :
  iU prog 7 #[.pointer (some ⟨e, 0, none⟩), .agg #[.int .i64 p.kd, .int .i64 p.a, .int .i64 p.b, .bool p.back, v]] w fun _ w' => V w0 w' (eH e (s.zX p.a) • F) := by
 refine oP func7 ntmps7 ?_
 refine jg (jL (jG (l := [_, _, _, _, _]) H O O) ?_)
 rintro _ w1 ⟨b1, rfl, H1⟩
 refine Xy (bf 0 dJ O aj O (dQ ay O (H1).get.2 O (iT (bn (jg (aV (ig O O) (gY O (bI O (fun h => by exfalso; (try simp only [aH] at h); exact absurd (show p.kd = 0 from h) (by omega)) (fun h1 => ?_)))))))))
 (try simp only [aH] at h1)
 refine jg (aV (ig O O) (gY O (bI O (fun h => by exfalso; (try simp only [aH] at h); exact absurd (show p.kd = 1 from h) (by omega)) (fun h2 => ?_))))
 (try simp only [aH] at h2)
 refine jg (aV (ig O O) (gY O (bI O (fun h => by exfalso; (try simp only [aH] at h); exact absurd (show p.kd = 2 from h) (by omega)) (fun h3 => ?_))))
 (try simp only [aH] at h3)
 refine jg (aV (ig O O) (gY O (bI O (fun h => by exfalso; (try simp only [aH] at h); exact absurd (show p.kd = 3 from h) (by omega)) (fun h4 => ?_))))
 (try simp only [aH] at h4)
 refine jg (aV (ig O O) (gY O (bI O (fun h => by exfalso; (try simp only [aH] at h); exact absurd (show p.kd = 4 from h) (by omega)) (fun h5 => ?_))))
 (try simp only [aH] at h5)
 refine jg (aV (ig O O) (gY O (bI O (fun h => by exfalso; (try simp only [aH] at h); exact absurd (show p.kd = 5 from h) (by omega)) (fun h6 => ?_))))
 (try simp only [aH] at h6)
 refine jg (aV (ig O O) (gY O (bI O (fun h => by exfalso; (try simp only [aH] at h); exact absurd (show p.kd = 6 from h) (by omega)) (fun h7 => ?_))))
 (try simp only [aH] at h7)
 refine jg (aV (ig O O) (gY O (bI O (fun h => by exfalso; (try simp only [aH] at h); exact absurd (show p.kd = 7 from h) (by omega)) (fun h8 => ?_))))
 (try simp only [aH] at h8)
 refine jg (aV (ig O O) (gY O (bI O (fun h => by exfalso; (try simp only [aH] at h); exact absurd (show p.kd = 8 from h) (by omega)) (fun h9 => ?_))))
 (try simp only [aH] at h9)
 refine jg (aV (ig O O) (gY O (bI O (fun h => by exfalso; (try simp only [aH] at h); exact absurd (show p.kd = 9 from h) (by omega)) (fun h10 => ?_))))
 (try simp only [aH] at h10)
 refine jg (aV (ig O O) (gY O (bI O (fun h => by exfalso; (try simp only [aH] at h); exact absurd (show p.kd = 10 from h) (by omega)) (fun h11 => ?_))))
 (try simp only [aH] at h11)
 refine jg (aV (ig O O) (gY O (bI O (fun h => by exfalso; (try simp only [aH] at h); exact absurd (show p.kd = 11 from h) (by omega)) (fun h12 => ?_))))
 (try simp only [aH] at h12)
 refine jg (aV (ig O O) (gY O (bI O (fun h13 => ?_) (fun h => by exfalso; (try simp only [aH] at h); exact h hk))))
 (try simp only [aH] at h13)
 refine aC (cZ O (bf 1 dJ O aj O (dQ ay O (H1).get.2 O (dZ O func30 (OG H1.f2 (by assumption) (by assumption)) ?_))))
 rintro _ w2 ⟨rfl, H2⟩
 refine bY (aN (gQ (.inr O) kY ?_))
 exact H2.f2.right
theorem Em (H : V w0 w (eH e s • F)) (hr : kP w0 F .i32 v p.text) (hb : p.text.length ≤ 35184372087808) (hT : DU w0) (hR : eP s.c.L) :
    iU prog 7 #[.pointer (some ⟨e, 0, none⟩), .agg #[.int .i64 p.kd, .int .i64 p.a, .int .i64 p.b, .bool p.back, v]] w fun _ w' => V w0 w' (eH e (s.FM p) • F) := by
  unfold aY.FM
  by_cases hk : p.kd = 13
  · rw [if_pos hk]; exact L6 H hk hT hR (Rd.one (hr _ H.right))
  · rw [if_neg hk]; exact Ox H hr hb hk
end
end Go.Proofs.YtimndnfpcomhlaaGreatDoor
end
section
namespace Go.Proofs.YtimndnfpcomhlaaGreatDoor
open Go.RowKit
structure Out (s : aY) (L : List Int) (pt : Int) (G : List (List gV)) (run : Bool) : Prop where
  inn : s.inn = false
  L : s.c.L = L
  pt : s.c.pt = pt
  G : s.c.un s.c.place = G
  run : s.c.run = run
  over : s.c.over = false
structure YU (s : aY) (L : List Int) (pt : Int) (G : List (List gV)) (run : Bool) : Prop where
  inn : s.inn = true
  L : s.c.L = L
  pt : s.c.pt = pt
  G : s.c.un s.c.place = G
  run : s.c.run = run
  over : s.c.over = false
  put : s.put = []
  cls : s.cls = 0
  whole : s.whole = true
section
variable {s : aY} {L : List Int} {pt : Int} {G : List (List gV)} {run : Bool} {r : Int}
theorem Out.begin (h : Out s L pt G run) : YU s.bZ L pt G run ∧ s.Ih = 0 := by
  unfold aY.bZ aY.Ih
  rw [if_neg (by rw [h.inn]; decide), if_neg (by rw [h.inn]; decide)]
  exact ⟨⟨rfl, h.L, h.pt, h.G, h.run, h.over, rfl, rfl, rfl⟩, rfl⟩
def OH (G : List (List gV)) (run : Bool) (x : gV) : List (List gV) := if run then (match G.getLast? with | some g => G.dropLast ++ [g ++ [x]] | none => [[x]]) else G ++ [[x]]
theorem YU.YV (h : YU s L pt G run) (h1 : 0 ≤ pt ∧ pt ≤ L.length) (h2 : L.length < 1024) (h3 : gI G [] < 16384) :
    s.Ea [r] = 0 ∧ s.mX [r] = { (s.lJ (L.take pt.toNat ++ [r] ++ L.drop pt.toNat) (pt + 1) (qZ L s.c.mark pt pt [r])) with put := [(pt, [], [r])], cls := 3 } := by
  have hto : s.kX [r] = pt := by unfold aY.kX; rw [h.over]; exact h.pt
  have hE : kC L pt pt [r] = 0 := by unfold kC; rw [if_neg (by omega), if_neg (by simp; omega)]
  have hE' : s.mD s.c.pt (s.kX [r]) [r] = 0 := by unfold aY.mD; rw [if_pos h.inn, hto, h.pt, h.L]; exact hE
  have hP : qJ L pt pt pt [r] = pt + 1 := by unfold qJ dX; rw [if_pos hE, if_neg (by omega), if_pos (by omega)]; rfl
  have hD : lg L pt pt [r] = [] := by unfold lg; rw [if_pos hE]; simp
  have hI : lq L pt pt [r] = [r] := by unfold lq; rw [if_pos hE]
  have hA : qK L pt pt [r] = pt := by unfold qK; rw [if_pos hE]
  have hL : kL L pt pt [r] = L.take pt.toNat ++ [r] ++ L.drop pt.toNat := by unfold kL; rw [if_pos hE]
  have hS : s.iw s.c.pt (s.kX [r]) [r] = { (s.lJ (L.take pt.toNat ++ [r] ++ L.drop pt.toNat) (pt + 1) (qZ L s.c.mark pt pt [r])) with put := [(pt, [], [r])] } := by
    unfold aY.iw
    rw [if_pos h.inn, hto, h.pt, h.L, hP, hD, hI, hA, hL]
    unfold aY.nO
    rw [if_neg (by simp), if_neg (by
      show ¬ 16384 ≤ gI (s.c.un s.c.place) s.put
      rw [h.G, h.put]; omega)]
    show _ = _
    unfold aY.lJ
    simp only [h.put, List.nil_append]
  refine ⟨hE', ?_⟩
  unfold aY.mX
  rw [if_pos h.inn]
  dsimp only
  rw [if_pos ⟨hE', h.cls⟩, hS]
theorem IK (u : aY) (h : u.inn = true) : (u.jP 0).c.L = u.c.L := by by_cases ha : u.argues = true <;> by_cases hp : u.put = [] <;> by_cases hc : u.cls = 2 <;> simp [aY.jP, aY.ng, aY.je, aY.cO, aY.xC, aY.kT, aY.jw, aY.here, gZ, ha, hp, hc, h]
theorem L8 (u : aY) (h : u.inn = true) : (u.jP 0).c.pt = u.c.pt := by by_cases ha : u.argues = true <;> by_cases hp : u.put = [] <;> by_cases hc : u.cls = 2 <;> simp [aY.jP, aY.ng, aY.je, aY.cO, aY.xC, aY.kT, aY.jw, aY.here, gZ, ha, hp, hc, h]
theorem ZY (u : aY) (h : u.inn = true) : (u.jP 0).c.E = u.c.E := by by_cases ha : u.argues = true <;> by_cases hp : u.put = [] <;> by_cases hc : u.cls = 2 <;> simp [aY.jP, aY.ng, aY.je, aY.cO, aY.xC, aY.kT, aY.jw, aY.here, gZ, ha, hp, hc, h]
theorem Yc (u : aY) (h : u.inn = true) : (u.jP 0).c.at_ = u.c.at_ := by by_cases ha : u.argues = true <;> by_cases hp : u.put = [] <;> by_cases hc : u.cls = 2 <;> simp [aY.jP, aY.ng, aY.je, aY.cO, aY.xC, aY.kT, aY.jw, aY.here, gZ, ha, hp, hc, h]
theorem KE (u : aY) (h : u.inn = true) : (u.jP 0).c.over = u.c.over := by by_cases ha : u.argues = true <;> by_cases hp : u.put = [] <;> by_cases hc : u.cls = 2 <;> simp [aY.jP, aY.ng, aY.je, aY.cO, aY.xC, aY.kT, aY.jw, aY.here, gZ, ha, hp, hc, h]
theorem AZ (u : aY) (h : u.inn = true) : (u.jP 0).inn = false := by by_cases ha : u.argues = true <;> by_cases hp : u.put = [] <;> by_cases hc : u.cls = 2 <;> simp [aY.jP, aY.ng, aY.je, aY.cO, aY.xC, aY.kT, aY.jw, aY.here, gZ, ha, hp, hc, h]
theorem TW (u : aY) (h : u.inn = true) : (u.jP 0).c.last = u.cls := by by_cases ha : u.argues = true <;> by_cases hp : u.put = [] <;> by_cases hc : u.cls = 2 <;> simp [aY.jP, aY.ng, aY.je, aY.cO, aY.xC, aY.kT, aY.jw, aY.here, gZ, ha, hp, hc, h]
theorem OI (u : aY) (h : u.inn = true) : (u.jP 0).c.run = (u.typed && (!u.put.isEmpty || u.c.run)) := by by_cases ha : u.argues = true <;> by_cases hp : u.put = [] <;> by_cases hc : u.cls = 2 <;> simp [aY.jP, aY.ng, aY.je, aY.cO, aY.xC, aY.kT, aY.jw, aY.here, gZ, ha, hp, hc, h]
theorem Gn (u : aY) (h : u.inn = true) : (u.jP 0).c.un (u.jP 0).c.place = u.jw (u.typed && u.c.run) := by by_cases ha : u.argues = true <;> by_cases hp : u.put = [] <;> by_cases hc : u.cls = 2 <;> simp [aY.jP, aY.ng, aY.je, aY.cO, aY.xC, aY.kT, aY.jw, aY.here, gZ, ha, hp, hc, h]
theorem YU.typed (h : YU s L pt G run) (h1 : 0 ≤ pt ∧ pt ≤ L.length) (h2 : L.length < 1024) (h3 : gI G [] < 16384) :
    Out ((s.mX [r]).jP 0) (L.take pt.toNat ++ [r] ++ L.drop pt.toNat) (pt + 1) (OH G run (pt, [], [r])) true ∧ (s.mX [r]).Di 0 = 0 := by
  obtain ⟨_, e⟩ := h.YV (r := r) h1 h2 h3
  have hu : (s.mX [r]).inn = true := by rw [e]; exact h.inn
  have hT : (s.mX [r]).typed = true := by rw [e]; show (((3 : Int) == 3) && s.whole) = true; rw [h.whole]; rfl
  have hp : (s.mX [r]).put = [(pt, [], [r])] := by rw [e]
  have hr : (s.mX [r]).c.run = run := by rw [e]; exact h.run
  have hh : (s.mX [r]).here = G := by rw [e]; exact h.G
  refine ⟨⟨AZ _ hu, (IK _ hu).trans (by rw [e]; rfl), (L8 _ hu).trans (by rw [e]; rfl), ?_, ?_, (KE _ hu).trans (by rw [e]; exact h.over)⟩, by unfold aY.Di; rw [if_pos hu]⟩
  · rw [Gn _ hu, hT, hr, Bool.true_and]
    unfold aY.jw OH
    rw [if_neg (by rw [hp]; simp), hp, hh] <;> rfl
  · rw [OI _ hu, hT, hp]; rfl
def KF (s : aY) (r : Int) : aY := (s.bZ.mX [r]).jP (s.bZ.Ea [r])
theorem Out.KF (h : Out s L pt G run) (h1 : 0 ≤ pt ∧ pt ≤ L.length) (h2 : L.length < 1024) (h3 : gI G [] < 16384) :
    Out (KF s r) (L.take pt.toNat ++ [r] ++ L.drop pt.toNat) (pt + 1) (OH G run (pt, [], [r])) true := by
  unfold Go.Proofs.YtimndnfpcomhlaaGreatDoor.KF
  rw [(h.begin.1.YV (r := r) h1 h2 h3).1]
  exact (h.begin.1.typed h1 h2 h3).1
theorem KG (hi : s.inn = true) (hL : s.c.L = L) (hpt : s.c.pt = pt) (hG : s.here = G) (ho : s.c.over = false) (hp : s.put = []) (hc : s.cls = 0) : Out (s.jP 0) L pt G false := by
  have hT : s.typed = false := by unfold aY.typed; rw [hc]; rfl
  refine ⟨AZ _ hi, (IK _ hi).trans hL, (L8 _ hi).trans hpt, ?_, ?_, (KE _ hi).trans ho⟩
  · rw [Gn _ hi]; unfold aY.jw; rw [if_pos hp]; exact hG
  · rw [OI _ hi, hT]; rfl
theorem YU.end_ (h : YU s L pt G run) : Out (s.jP 0) L pt G false := KG h.inn h.L h.pt h.G h.over h.put h.cls
theorem Out.move (h : Out s L pt G run) (x : Int) (hx : 0 ≤ x ∧ x ≤ L.length) : Out ((s.bZ.yQ x).jP 0) L x G false := by
  have hb := h.begin.1
  refine YU.end_ (s := s.bZ.yQ x) (run := run) ?_
  unfold aY.yQ
  rw [if_pos hb.inn]
  refine ⟨hb.inn, hb.L, ?_, hb.G, hb.run, hb.over, hb.put, hb.cls, hb.whole⟩
  show Yx s.bZ.c.L.length s.bZ.c.pt x = x
  unfold Yx
  rw [if_pos (by rw [hb.L]; omega)]
end
def Pe (p : Int) : List Int → List gV
  | [] => []
  | r :: l => (p, [], [r]) :: Pe (p + 1) l
theorem Ws (p : Int) (l : List Int) (r : Int) : Pe p (l ++ [r]) = Pe p l ++ [(p + l.length, [], [r])] := by
  induction l generalizing p with
  | nil => simp [Pe]
  | cons x l ih => simp only [List.cons_append, Pe, ih, List.length_cons]; rw [show p + 1 + (l.length : Int) = p + ((l.length + 1 : Nat) : Int) from by omega]
theorem Yd (p : Int) (l : List Int) : (Pe p l).length = l.length := by induction l generalizing p with
  | nil => rfl
  | cons x l ih => simp [Pe, ih]
def A8 (G : List (List gV)) (p : Int) (l : List Int) : List (List gV) := if l = [] then G else G ++ [Pe p l]
theorem TY (G : List (List gV)) (p : Int) (l : List Int) : gI (A8 G p l) [] = gI G [] + l.length := by
  unfold A8 gI; split
  · rename_i h; subst h; simp
  · simp [Yd]
theorem Qz (G : List (List gV)) (p : Int) (l : List Int) (r : Int) : OH (A8 G p l) (!l.isEmpty) (p + l.length, [], [r]) = A8 G p (l ++ [r]) := by
  unfold OH A8
  rw [if_neg (show l ++ [r] ≠ [] by simp)]
  cases l with
  | nil => simp [Pe]
  | cons x l => rw [if_neg (show ¬ x :: l = [] by simp)]; simp only [List.isEmpty_cons, Bool.not_false, if_true, List.getLast?_append, List.getLast?_singleton, Option.some_or, List.dropLast_concat, Ws]
theorem Dv (s : aY) : s.bZ.inn = true := by unfold aY.bZ; split; assumption; rfl
theorem IL (s : aY) (b : Bool) : (s.cO b).inn = s.inn := by unfold aY.cO; split <;> rfl
section
variable {s : aY} {L : List Int} {pt : Int} {G : List (List gV)} {run : Bool} {r : Int}
def IQ (s : aY) (l : List Int) : aY := l.foldl KF s
theorem Out.IQ (h : Out s L pt G false) (h1 : 0 ≤ pt ∧ pt ≤ L.length) (l : List Int) (h2 : L.length + l.length ≤ 1024) (h3 : gI G [] + l.length ≤ 16384) :
    Out (IQ s l) (L.take pt.toNat ++ l ++ L.drop pt.toNat) (pt + l.length) (A8 G pt l) (!l.isEmpty) := by
  suffices hh : ∀ n (l : List Int), l.length = n → L.length + n ≤ 1024 → gI G [] + n ≤ 16384 → Out (Go.Proofs.YtimndnfpcomhlaaGreatDoor.IQ s l) (L.take pt.toNat ++ l ++ L.drop pt.toNat) (pt + l.length) (A8 G pt l) (!l.isEmpty) from hh _ l rfl h2 h3
  intro n
  induction n with
  | zero =>
    intro l hn _ _
    obtain rfl := List.length_eq_zero_iff.1 hn
    simpa [A8, Go.Proofs.YtimndnfpcomhlaaGreatDoor.IQ] using h
  | succ n ih =>
    intro l hn h2 h3
    rcases List.eq_nil_or_concat l with rfl | ⟨l, r, rfl⟩
    · cases hn
    rw [List.concat_eq_append] at hn ⊢
    have hn2 : l.length = n := by simpa using hn
    have h4 := ih l hn2 (by omega) (by omega)
    have hl : (L.take pt.toNat ++ l ++ L.drop pt.toNat).length = L.length + l.length := by simp; omega
    have h5 := h4.KF (r := r) (by rw [hl]; omega) (by rw [hl]; omega) (by rw [TY]; omega)
    have e1 : (L.take pt.toNat ++ l ++ L.drop pt.toNat).take (pt + l.length).toNat = L.take pt.toNat ++ l := by
      rw [List.take_append_of_le_length (by simp; omega), List.take_of_length_le (by simp; omega)]
    have e2 : (L.take pt.toNat ++ l ++ L.drop pt.toNat).drop (pt + l.length).toNat = L.drop pt.toNat := by
      rw [List.drop_append_of_le_length (by simp; omega), List.drop_of_length_le (by simp; omega), List.nil_append]
    rw [e1, e2, Qz] at h5
    have e3 : Go.Proofs.YtimndnfpcomhlaaGreatDoor.IQ s (l ++ [r]) = Go.Proofs.YtimndnfpcomhlaaGreatDoor.KF (Go.Proofs.YtimndnfpcomhlaaGreatDoor.IQ s l) r := by unfold Go.Proofs.YtimndnfpcomhlaaGreatDoor.IQ; rw [List.foldl_append]; rfl
    rw [e3]
    rw [show pt + ((l ++ [r]).length : Int) = pt + l.length + 1 from by simp; omega, show (!(l ++ [r]).isEmpty) = true from by simp, ← List.append_assoc]
    exact h5
theorem Wu (A B : List Int) (p m : Int) (r : Int) (h : A.length + B.length ≤ 1024) : ∃ p' m', aY.Zz (A ++ r :: B, p, m) ((A.length : Int), [r], []) = (A ++ B, p', m') := by
  refine ⟨_, _, Prod.ext ?_ rfl⟩
  show zf (A ++ r :: B) (A.length : Int) [r] [] = A ++ B
  have hr : kC (A ++ r :: B) (A.length : Int) (A.length + ([r].length : Int)) [] = 0 := by
    unfold kC; rw [if_neg (by simp; omega), if_neg (by simp; omega)]
  have hf : Az (A ++ r :: B) (A.length : Int) [r] = true := by
    unfold Az; simp; omega
  have he : zZ (A ++ r :: B) (A.length : Int) [r] [] = 0 := by unfold zZ; rw [if_neg (by simp; omega), hf]; exact hr
  unfold zf kL
  rw [if_pos he, if_pos hr]
  rw [show (A.length + ([r].length : Int)).toNat = A.length + 1 from by simp, show (A.length : Int).toNat = A.length from by omega]
  rw [List.take_left, show A.length + 1 = (A ++ [r]).length from by simp, show A ++ r :: B = (A ++ [r]) ++ B from by simp, List.drop_left]
  simp
theorem Wv (l : List Int) (A B : List Int) (p m : Int) (h : A.length + l.length + B.length ≤ 1024) : ∃ p' m', aY.apps (A ++ l ++ B, p, m) ((Pe (A.length : Int) l).reverse.map vV) = (A ++ B, p', m') := by
  induction l generalizing A p m with
  | nil => exact ⟨p, m, by simp [Pe, aY.apps]⟩
  | cons r l ih =>
    rw [List.length_cons] at h
    obtain ⟨p1, m1, e1⟩ := ih (A ++ [r]) p m (by simp; omega)
    rw [List.length_append, List.length_singleton] at e1
    have e2 : A ++ r :: l ++ B = A ++ [r] ++ l ++ B := by simp
    show ∃ p' m', aY.apps (A ++ r :: l ++ B, p, m) (((((A.length : Int), [], [r]) :: Pe ((A.length : Int) + 1) l).reverse).map vV) = _
    rw [List.reverse_cons, List.map_append, e2]
    unfold aY.apps at e1 ⊢
    rw [List.foldl_append]
    rw [show ((A.length + 1 : Nat) : Int) = (A.length : Int) + 1 from by omega] at e1
    rw [e1, List.append_assoc, List.singleton_append]
    exact Wu A B p1 m1 r (by omega)
theorem Out.Ye {A B l : List Int} (h : Out s (A ++ l ++ B) pt (A8 G A.length l) run) (hl : l ≠ []) (hn : A.length + l.length + B.length ≤ 1024) :
    s.bZ.uo = 0 ∧ ∃ pt', Out (s.bZ.oU.jP 0) (A ++ B) pt' G false := by
  have hb := h.begin.1
  have hw : A8 G A.length l = G ++ [Pe A.length l] := by unfold A8; rw [if_neg hl]
  have hf : s.bZ.cO false = s.bZ := by unfold aY.cO; rw [if_pos hb.put]
  have hh : s.bZ.here = G ++ [Pe A.length l] := hb.G.trans hw
  obtain ⟨p', m', e⟩ := Wv l A B pt s.bZ.c.mark hn
  refine ⟨by unfold aY.uo; rw [if_pos hb.inn, hf, hh, if_neg (by simp)], p', ?_⟩
  have eU : s.bZ.oU = ((s.bZ.kT G).lJ (A ++ B) p' m').zy := by
    unfold aY.oU
    rw [if_pos hb.inn]
    dsimp only
    rw [hf, if_neg (by rw [hh]; simp), hh, List.dropLast_concat]
    rw [show (G ++ [Pe (A.length : Int) l]).getLastD [] = Pe A.length l from by simp]
    unfold aY.Ik
    rw [show ((s.bZ.kT G).c.L, (s.bZ.kT G).c.pt, (s.bZ.kT G).c.mark) = (A ++ l ++ B, pt, s.bZ.c.mark) from by rw [← hb.L, ← hb.pt]; rfl, e]
  rw [eU]
  exact KG hb.inn rfl rfl (gZ _ _ _) hb.over hb.put hb.cls
end
def aY.Z4 (s : aY) (l : List Int) : Int := if s.inn then 1 else if 1024 < l.length then 3 else 0
def aY.acS (s : aY) (hl : List qE) (base most : Int) (l : List Int) : aY := if s.Z4 l = 0 then s.start hl base most l else s
section
variable {w0 w : World} {F : HP} {e p h pr : Nat} {s : aY} {hl : List qE} {base most m : Int} {v : Value} {l : List Int}
end
section
variable {s : aY}
theorem Yf (s : aY) (x : gV) : (s.nO x).c.L = s.c.L ∧ (s.nO x).c.pt = s.c.pt ∧ (s.nO x).c.mark = s.c.mark ∧ (s.nO x).c.E = s.c.E ∧ (s.nO x).c.at_ = s.c.at_ ∧ (s.nO x).inn = s.inn ∧ (s.nO x).cls = s.cls ∧ (s.nO x).was = s.was := by
  unfold aY.nO
  split
  · simp
  · split <;> simp [aY.kT]
theorem Yg (h : s.inn = true) (i j : Int) (l : List Int) : (s.iw i j l).c.L = kL s.c.L i j l ∧ (s.iw i j l).c.pt = qJ s.c.L s.c.pt i j l ∧ (s.iw i j l).c.mark = qZ s.c.L s.c.mark i j l ∧ (s.iw i j l).c.E = s.c.E ∧ (s.iw i j l).c.at_ = s.c.at_ ∧ (s.iw i j l).inn = true ∧ (s.iw i j l).cls = s.cls ∧ (s.iw i j l).was = s.was := by
  unfold aY.iw
  rw [if_pos h]
  obtain ⟨h1, h2, h3, h4, h5, h6, h7, h8⟩ := Yf (s.lJ (kL s.c.L i j l) (qJ s.c.L s.c.pt i j l) (qZ s.c.L s.c.mark i j l)) (qK s.c.L i j l, lg s.c.L i j l, lq s.c.L i j l)
  exact ⟨h1, h2, h3, h4, h5, h6.trans h, h7, h8⟩
theorem Z5 (h : s.inn = true) {i j : Int} {back : Bool} (hi : 0 ≤ i ∧ i ≤ j ∧ j ≤ s.c.L.length) (hL : s.c.L.length ≤ 1024) (hk : (s.ru i j back).1 = 0) (hp : i ≤ s.c.pt ∧ s.c.pt ≤ j) :
    (s.wC i j back).c.L = s.c.L.take i.toNat ++ s.c.L.drop j.toNat ∧ (s.wC i j back).c.pt = i ∧ (s.wC i j back).c.E = (s.ru i j back).2.1 ∧ (s.wC i j back).c.at_ = (s.ru i j back).2.2 ∧ (s.wC i j back).inn = true ∧ (s.wC i j back).cls = 1 := by
  have hc : s.qM i j back = 0 := by
    unfold aY.qM
    rw [if_pos h, if_neg (by unfold aY.pY; omega), hk]
  have hE : kC s.c.L i j [] = 0 := by unfold kC; rw [if_neg (by omega), if_neg (by simp; omega)]
  unfold aY.wC
  rw [if_pos hc]
  have e : s.qN i j back = { s.Gm (s.ru i j back).2.1 (s.ru i j back).2.2 with killed := true, cls := 1 } := by unfold aY.qN; rw [if_pos hc]
  have ei : (s.qN i j back).inn = true := by rw [e]; exact h
  obtain ⟨h1, h2, h3, h4, h5, h6, h7, h8⟩ := Yg ei i j []
  refine ⟨h1.trans ?_, h2.trans ?_, h4.trans (by rw [e]; rfl), h5.trans (by rw [e]; rfl), h6, h7.trans (by rw [e])⟩
  · rw [show (s.qN i j back).c.L = s.c.L from by rw [e]; rfl]
    unfold kL
    rw [if_pos hE]; simp
  · rw [show (s.qN i j back).c.L = s.c.L from by rw [e]; rfl, show (s.qN i j back).c.pt = s.c.pt from by rw [e]; rfl]
    unfold qJ dX
    rw [if_pos hE]
    simp only [List.length_nil]
    split <;> (try split) <;> omega
end
structure L9 (s : aY) (A : List Int) (a b : Int) : Prop where
  inn : s.inn = false
  ok : 0 ≤ a ∧ a ≤ b ∧ b ≤ A.length
  L : s.c.L = A.take a.toNat ++ A.drop b.toNat
  pt : s.c.pt = a
  ring : (s.c.E = [] ∧ a = b) ∨ (s.c.E = [(A.drop a.toNat).take (b.toNat - a.toNat)] ∧ s.c.at_ = 0 ∧ s.c.last = 1)
section
variable {s : aY} {A : List Int} {a b k : Int}
theorem L9.len (h : L9 s A a b) : (s.c.L.length : Int) = A.length - (b - a) := by
  have := h.ok
  rw [h.L]; simp; omega
theorem wK (s : aY) : s.bZ.c = s.c := by unfold aY.bZ; split <;> rfl
theorem QA (h : L9 s A a b) (hA : A.length ≤ 1024) {i j : Int} {back : Bool} {l : List Int} (hcut : s.bZ.cut i j = l) (hl : l.length + (b - a) ≤ A.length) :
    (s.bZ.ru i j back).1 = 0 ∧ ((s.bZ.ru i j back).2.1 = [] ∧ l = [] ∧ a = b ∨ (s.bZ.ru i j back).2.1 = [if back then l ++ (A.drop a.toNat).take (b.toNat - a.toNat) else (A.drop a.toNat).take (b.toNat - a.toNat) ++ l] ∧ (s.bZ.ru i j back).2.2 = 0) := by
  have ho := h.ok
  have hb : s.bZ.killed = false := by unfold aY.bZ; rw [if_neg (by rw [h.inn]; decide)]
  unfold aY.ru
  rw [hcut, wK]
  rcases h.ring with ⟨h1, h2⟩ | ⟨h1, h2, h3⟩
  · rw [h1]
    have hx : (A.drop a.toNat).take (b.toNat - a.toNat) = [] := by rw [h2]; simp
    have hw : s.bZ.way back = 0 ∨ s.bZ.way back = 1 ∨ s.bZ.way back = 2 := by unfold aY.way; split <;> (try split) <;> simp
    unfold yH
    rw [if_neg (by omega), if_neg (by omega), if_neg (by simp)]
    split
    · rename_i h4
      exact ⟨rfl, .inl ⟨rfl, List.length_eq_zero_iff.1 h4.2, h2⟩⟩
    · rw [hx]
      exact ⟨rfl, .inr ⟨by cases back <;> simp, rfl⟩⟩
  · rw [h1, h2]
    have hw : s.bZ.way back = if back then 2 else 1 := by unfold aY.way; rw [if_pos (by rw [wK]; exact .inl h3)]
    have hlen : ((A.drop a.toNat).take (b.toNat - a.toNat)).length = b.toNat - a.toNat := by simp; omega
    rw [hw]
    unfold yH
    rw [if_neg (by cases back <;> simp), if_neg (by omega), if_pos (by cases back <;> simp), if_neg (by simp only [List.getD_cons_zero]; omega)]
    exact ⟨rfl, .inr ⟨by cases back <;> simp, rfl⟩⟩
theorem L9.step (h : L9 s A a b) (hA : A.length ≤ 1024) {i j a' b' : Int} {back : Bool} {l : List Int} (hij : 0 ≤ i ∧ i ≤ j ∧ j ≤ s.c.L.length) (hp : i ≤ a ∧ a ≤ j) (hcut : s.bZ.cut i j = l) (hl : l.length + (b - a) ≤ A.length)
    (ho : 0 ≤ a' ∧ a' ≤ b' ∧ b' ≤ A.length) (hi : i = a') (hL : s.c.L.take i.toNat ++ s.c.L.drop j.toNat = A.take a'.toNat ++ A.drop b'.toNat) (he : l = [] → a = b → a' = b')
    (hx : (if back then l ++ (A.drop a.toNat).take (b.toNat - a.toNat) else (A.drop a.toNat).take (b.toNat - a.toNat) ++ l) = (A.drop a'.toNat).take (b'.toNat - a'.toNat)) :
    L9 ((s.bZ.wC i j back).jP 0) A a' b' := by
  obtain ⟨h1, h2⟩ := QA h hA (back := back) hcut hl
  have hlen := h.len
  have hok := h.ok
  obtain ⟨k1, k2, k3, k4, k5, k6⟩ := Z5 (s := s.bZ) (Dv s) (i := i) (j := j) (back := back) (by rw [wK]; exact hij) (by rw [wK]; omega) h1 (by rw [wK, h.pt]; exact hp)
  rw [wK] at k1
  refine ⟨AZ _ k5, ho, (IK _ k5).trans (k1.trans hL), (L8 _ k5).trans (k2.trans hi), ?_⟩
  rw [ZY _ k5, Yc _ k5, TW _ k5, k3, k4, k6]
  rcases h2 with ⟨q1, q2, q3⟩ | ⟨q1, q2⟩
  · exact .inl ⟨q1, he q2 q3⟩
  · exact .inr ⟨by rw [q1, hx], q2, rfl⟩
theorem L9.back (h : L9 s A a b) (hA : A.length ≤ 1024) (hk : 0 ≤ k ∧ k ≤ a) : L9 ((s.bZ.wC (s.bZ.c.pt - k) s.bZ.c.pt true).jP 0) A (a - k) b := by
  have hlen := h.len
  have hok := h.ok
  rw [wK, h.pt]
  have e1 : s.bZ.cut (a - k) a = (A.drop (a - k).toNat).take k.toNat := by
    unfold aY.cut
    rw [wK, h.L, List.drop_append_of_le_length (by simp; omega), List.take_append_of_le_length (by simp; omega), List.drop_take]
    rw [List.take_take]; congr 1; omega
  refine h.step hA (l := (A.drop (a - k).toNat).take k.toNat) (by omega) (by omega) e1 (by simp; omega) (by omega) rfl ?_ ?_ ?_
  · rw [h.L, List.take_append_of_le_length (by simp; omega), List.take_take, List.drop_append, List.drop_of_length_le (by simp; omega), List.nil_append]
    rw [show min (a - k).toNat a.toNat = (a - k).toNat from by omega, show a.toNat - (A.take a.toNat).length = 0 from by simp; omega, List.drop_zero]
  · intro h1 h2
    have h3 := congrArg List.length h1
    simp at h3; omega
  · simp only [if_true]
    rw [show (A.drop a.toNat).take (b.toNat - a.toNat) = ((A.drop (a - k).toNat).drop k.toNat).take (b.toNat - a.toNat) from by rw [List.drop_drop]; congr 2; omega, show b.toNat - (a - k).toNat = k.toNat + (b.toNat - a.toNat) from by omega, List.take_add]
end
end Go.Proofs.YtimndnfpcomhlaaGreatDoor
end
