import Derived.Test.YtimndnfpcomhlaaGreatDoorZ4
import Derived.Test.YtimndnfpcomhlaaGreatDoorZ12
import Derived.Test.YtimndnfpcomhlaaGreatDoorZ14
import Derived.Test.YtimndnfpcomhlaaGreatDoorZ11
import Derived.Test.YtimndnfpcomhlaaGreatDoorZ7
set_option linter.unusedSimpArgs false
set_option linter.unusedVariables false
/- Texts of mine, joined, their names in short: EEdit Owns EdS EdS2. -/
section
namespace Go.Proofs.YtimndnfpcomhlaaGreatDoor
open Go.RowKit
open _root_.Go.Proofs.Tryz
structure CO where
  kd : Int
  a : Int
  b : Int
  back : Bool
  text : List Int
structure og where
  kd : Int
  a : Int
  b : Int
  back : Bool
  v : Value
  text : List Int
instance : Inhabited og := ⟨⟨0, 0, 0, false, .slice none 0 0, []⟩⟩
def og.enc (p : og) : List Value := [.int .i64 p.kd, .int .i64 p.a, .int .i64 p.b, .bool p.back, p.v]
theorem og.tY (p : og) : p.enc.length = 5 := rfl
def og.m (p : og) : CO := ⟨p.kd, p.a, p.b, p.back, p.text⟩
def og.Reads (W : World) (p : og) : Prop := mM W .i32 p.v p.text ∧ p.text.length ≤ 35184372087808
def aY.edit (s : aY) (p : CO) : aY :=
  if p.kd = 0 then s.mX p.text else
  if p.kd = 1 then s.BQ p.text else
  if p.kd = 2 then s.iw p.a p.b [] else
  if p.kd = 3 then s.iw p.a p.b p.text else
  if p.kd = 4 then s.wC p.a p.b p.back else
  if p.kd = 5 then s.qN p.a p.b p.back else
  if p.kd = 6 then s.xE else
  if p.kd = 7 then s.Ad p.a else
  if p.kd = 8 then s.yQ p.a else
  if p.kd = 9 then s.Ci p.a else
  if p.kd = 10 then s.Cj else
  if p.kd = 11 then s.oU else
  if p.kd = 17 then s.AV p.a else s
section
variable {w0 w : World} {F : HP} {e : Nat} {s : aY} {v : Value} {p : CO}
theorem Ox (H : V w0 w (eH e s • F)) (hr : kP w0 F .i32 v p.text) (hb : p.text.length ≤ 35184372087808) (hk : p.kd ≠ 13) :
  iU prog 7 #[.pointer (some ⟨e, 0, none⟩), .agg #[.int .i64 p.kd, .int .i64 p.a, .int .i64 p.b, .bool p.back, v]] w fun _ w' => V w0 w' (eH e (s.edit p) • F) := by
 refine oP func7 ntmps7 ?_
 refine jg (jL (jG (l := [_, _, _, _, _]) H O O) ?_)
 rintro _ w1 ⟨b1, rfl, H1⟩
 refine Xy (bf 0 dJ O aj O (dQ ay O (H1).get.2 O (iT (bn (jg (aV (ig O O) (gY O (bI O (fun h1 => ?_) (fun h1 => ?_)))))))))
 ·(try simp only [aH] at h1)
  have k0 := h1
  refine aC (cZ O (bf 4 dJ O dD O (dQ aG O (H1).get.2 O (dZ O func16 (FB H1.f2 (fun W HW => hr _ (HW.right)) (by omega)) ?_))))
  rintro _ w2 ⟨rfl, H2⟩
  refine bY (aN (gQ (.inr O) kY ?_))
  exact (show s.edit p = s.mX p.text from by unfold aY.edit; rw [if_pos k0]) ▸ H2.f2.right
 ·(try simp only [aH] at h1)
  have n0 := h1
  refine jg (aV (ig O O) (gY O (bI O (fun h2 => ?_) (fun h2 => ?_))))
  ·(try simp only [aH] at h2)
   have k1 := h2
   refine aC (cZ O (bf 4 dJ O dD O (dQ aG O (H1).get.2 O (dZ O func19 (CG H1.f2 (fun W HW => hr _ (HW.right))) ?_))))
   rintro _ w3 ⟨rfl, H3⟩
   refine bY (aN (gQ (.inr O) kY ?_))
   exact (show s.edit p = s.BQ p.text from by unfold aY.edit; rw [if_neg n0, if_pos k1]) ▸ H3.f2.right
  ·(try simp only [aH] at h2)
   have n1 := h2
   refine jg (aV (ig O O) (gY O (bI O (fun h3 => ?_) (fun h3 => ?_))))
   ·(try simp only [aH] at h3)
    have k2 := h3
    refine aC (cZ O (bf 1 dJ O aj O (dQ ay O (H1).get.2 O (bf 2 dJ O aj O (dQ ay O (H1).get.2 O (dZ O func20 (Eh H1.f2) ?_))))))
    rintro _ w4 ⟨rfl, H4⟩
    refine bY (aN (gQ (.inr O) kY ?_))
    exact (show s.edit p = s.iw p.a p.b [] from by unfold aY.edit; rw [if_neg n0, if_neg n1, if_pos k2]) ▸ H4.f2.right
   ·(try simp only [aH] at h3)
    have n2 := h3
    refine jg (aV (ig O O) (gY O (bI O (fun h4 => ?_) (fun h4 => ?_))))
    ·(try simp only [aH] at h4)
     have k3 := h4
     refine aC (cZ O (bf 1 dJ O aj O (dQ ay O (H1).get.2 O (bf 2 dJ O aj O (dQ ay O (H1).get.2 O (bf 4 dJ O dD O (dQ aG O (H1).get.2 O (dZ O func21 (oG H1.f2 (fun W HW => hr _ (HW.right))) ?_))))))))
     rintro _ w5 ⟨rfl, H5⟩
     refine bY (aN (gQ (.inr O) kY ?_))
     exact (show s.edit p = s.iw p.a p.b p.text from by unfold aY.edit; rw [if_neg n0, if_neg n1, if_neg n2, if_pos k3]) ▸ H5.f2.right
    ·(try simp only [aH] at h4)
     have n3 := h4
     refine jg (aV (ig O O) (gY O (bI O (fun h5 => ?_) (fun h5 => ?_))))
     ·(try simp only [aH] at h5)
      have k4 := h5
      refine aC (cZ O (bf 1 dJ O aj O (dQ ay O (H1).get.2 O (bf 2 dJ O aj O (dQ ay O (H1).get.2 O (bf 3 dJ O aQ O (dQ bW O (H1).get.2 O (dZ O func22 (Ol H1.f2) ?_))))))))
      rintro _ w6 ⟨rfl, H6⟩
      refine bY (aN (gQ (.inr O) kY ?_))
      exact (show s.edit p = s.wC p.a p.b p.back from by unfold aY.edit; rw [if_neg n0, if_neg n1, if_neg n2, if_neg n3, if_pos k4]) ▸ H6.f2.right
     ·(try simp only [aH] at h5)
      have n4 := h5
      refine jg (aV (ig O O) (gY O (bI O (fun h6 => ?_) (fun h6 => ?_))))
      ·(try simp only [aH] at h6)
       have k5 := h6
       refine aC (cZ O (bf 1 dJ O aj O (dQ ay O (H1).get.2 O (bf 2 dJ O aj O (dQ ay O (H1).get.2 O (bf 3 dJ O aQ O (dQ bW O (H1).get.2 O (dZ O func23 (FC H1.f2) ?_))))))))
       rintro _ w7 ⟨rfl, H7⟩
       refine bY (aN (gQ (.inr O) kY ?_))
       exact (show s.edit p = s.qN p.a p.b p.back from by unfold aY.edit; rw [if_neg n0, if_neg n1, if_neg n2, if_neg n3, if_neg n4, if_pos k5]) ▸ H7.f2.right
      ·(try simp only [aH] at h6)
       have n5 := h6
       refine jg (aV (ig O O) (gY O (bI O (fun h7 => ?_) (fun h7 => ?_))))
       ·(try simp only [aH] at h7)
        have k6 := h7
        refine aC (cZ O (dZ O func24 (Oo H1.f2) ?_))
        rintro _ w8 ⟨rfl, H8⟩
        refine bY (aN (gQ (.inr O) kY ?_))
        exact (show s.edit p = s.xE from by unfold aY.edit; rw [if_neg n0, if_neg n1, if_neg n2, if_neg n3, if_neg n4, if_neg n5, if_pos k6]) ▸ H8.f2.right
       ·(try simp only [aH] at h7)
        have n6 := h7
        refine jg (aV (ig O O) (gY O (bI O (fun h8 => ?_) (fun h8 => ?_))))
        ·(try simp only [aH] at h8)
         have k7 := h8
         refine aC (cZ O (bf 1 dJ O aj O (dQ ay O (H1).get.2 O (dZ O func25 (Qo H1.f2) ?_))))
         rintro _ w9 ⟨rfl, H9⟩
         refine bY (aN (gQ (.inr O) kY ?_))
         exact (show s.edit p = s.Ad p.a from by unfold aY.edit; rw [if_neg n0, if_neg n1, if_neg n2, if_neg n3, if_neg n4, if_neg n5, if_neg n6, if_pos k7]) ▸ H9.f2.right
        ·(try simp only [aH] at h8)
         have n7 := h8
         refine jg (aV (ig O O) (gY O (bI O (fun h9 => ?_) (fun h9 => ?_))))
         ·(try simp only [aH] at h9)
          have k8 := h9
          refine aC (cZ O (bf 1 dJ O aj O (dQ ay O (H1).get.2 O (dZ O func26 (Oc H1.f2) ?_))))
          rintro _ w10 ⟨rfl, sV⟩
          refine bY (aN (gQ (.inr O) kY ?_))
          exact (show s.edit p = s.yQ p.a from by unfold aY.edit; rw [if_neg n0, if_neg n1, if_neg n2, if_neg n3, if_neg n4, if_neg n5, if_neg n6, if_neg n7, if_pos k8]) ▸ sV.f2.right
         ·(try simp only [aH] at h9)
          have n8 := h9
          refine jg (aV (ig O O) (gY O (bI O (fun h10 => ?_) (fun h10 => ?_))))
          ·(try simp only [aH] at h10)
           have k9 := h10
           refine aC (cZ O (bf 1 dJ O aj O (dQ ay O (H1).get.2 O (dZ O func27 (Oe H1.f2) ?_))))
           rintro _ I9 ⟨rfl, yt⟩
           refine bY (aN (gQ (.inr O) kY ?_))
           exact (show s.edit p = s.Ci p.a from by unfold aY.edit; rw [if_neg n0, if_neg n1, if_neg n2, if_neg n3, if_neg n4, if_neg n5, if_neg n6, if_neg n7, if_neg n8, if_pos k9]) ▸ yt.f2.right
          ·(try simp only [aH] at h10)
           have n9 := h10
           refine jg (aV (ig O O) (gY O (bI O (fun h11 => ?_) (fun h11 => ?_))))
           ·(try simp only [aH] at h11)
            have k10 := h11
            refine aC (cZ O (dZ O func28 (Og H1.f2) ?_))
            rintro _ w12 ⟨rfl, wz⟩
            refine bY (aN (gQ (.inr O) kY ?_))
            exact (show s.edit p = s.Cj from by unfold aY.edit; rw [if_neg n0, if_neg n1, if_neg n2, if_neg n3, if_neg n4, if_neg n5, if_neg n6, if_neg n7, if_neg n8, if_neg n9, if_pos k10]) ▸ wz.f2.right
           ·(try simp only [aH] at h11)
            have n10 := h11
            refine jg (aV (ig O O) (gY O (bI O (fun h12 => ?_) (fun h12 => ?_))))
            ·(try simp only [aH] at h12)
             have k11 := h12
             refine aC (cZ O (dZ O func29 (Ov H1.f2) ?_))
             rintro _ O8 ⟨rfl, yY⟩
             refine bY (aN (gQ (.inr O) kY ?_))
             exact (show s.edit p = s.oU from by unfold aY.edit; rw [if_neg n0, if_neg n1, if_neg n2, if_neg n3, if_neg n4, if_neg n5, if_neg n6, if_neg n7, if_neg n8, if_neg n9, if_neg n10, if_pos k11]) ▸ yY.f2.right
            ·(try simp only [aH] at h12)
             have n11 := h12
             refine jg (aV (ig O O) (gY O (bI O (fun h => by exfalso; (try simp only [aH] at h); exact hk h) (fun h13 => ?_))))
             (try simp only [aH] at h13)
             refine jg (aV (ig O O) (gY O (bI O (fun h14 => ?_) (fun h14 => ?_))))
             ·(try simp only [aH] at h14)
              have k17 := h14
              refine aC (cZ O (bf 1 dJ O aj O (dQ ay O (H1).get.2 O (dZ O func31 (Oh H1.f2) ?_))))
              rintro _ MK ⟨rfl, yu⟩
              refine bY (aN (gQ (.inr O) kY ?_))
              exact (show s.edit p = s.AV p.a from by unfold aY.edit; rw [if_neg n0, if_neg n1, if_neg n2, if_neg n3, if_neg n4, if_neg n5, if_neg n6, if_neg n7, if_neg n8, if_neg n9, if_neg n10, if_neg n11, if_pos k17]) ▸ yu.f2.right
             ·(try simp only [aH] at h14)
              have n17 := h14
              refine fU (aN (gQ (.inr O) kY ?_))
              rw [show s.edit p = s from by unfold aY.edit; rw [if_neg n0, if_neg n1, if_neg n2, if_neg n3, if_neg n4, if_neg n5, if_neg n6, if_neg n7, if_neg n8, if_neg n9, if_neg n10, if_neg n11, if_neg n17]]
              exact H1.right
end
end Go.Proofs.YtimndnfpcomhlaaGreatDoor
end
section
namespace Go.Proofs.YtimndnfpcomhlaaGreatDoor
open Go.RowKit
def Ae (e : TypeId) (k : IntKind) : List Value → List (List Int) → HP
  | [], [] => emp
  | v :: vs, l :: ls => jR e k v l • Ae e k vs ls
  | _, _ => fact False
section
variable {w0 w : World} {F : HP} {e : TypeId} {k : IntKind} {v : Value} {l : List Int}
theorem V.V8 (H : V w0 w F) : V w0 w (Ae e k [] [] • F) := H.KO
theorem V.Oy : ∀ {vs : List Value} {ls : List (List Int)} {F : HP}, V w0 w (Ae e k vs ls • F) → vs.length = ls.length
  | [], [], _, _ => rfl
  | v :: vs, l :: ls, _, H => by simpa using V.Oy (V.right (V.flat H))
  | [], _ :: _, _, H => absurd H.fact.1 id
  | _ :: _, [], _, H => absurd H.fact.1 id
theorem BM : ∀ (vs : List Value) (ls : List (List Int)), (Ae e k vs ls • jR e k v l) = Ae e k (vs ++ [v]) (ls ++ [l])
  | [], [] => by show (emp • jR e k v l) = (jR e k v l • emp); rw [wS]
  | u :: vs, m :: ls => by
    show ((jR e k u m • Ae e k vs ls) • jR e k v l) = (jR e k u m • Ae e k (vs ++ [v]) (ls ++ [l]))
    rw [dI, BM vs ls]
  | [], m :: ls => by
    apply HP.ext; funext I h; apply propext
    constructor
    · intro hp; exact absurd ((Af _ _ _ _).1 hp).1 id
    · intro hp
      cases ls with
      | nil => exact absurd (show False by obtain ⟨_, _, _, _, _, hb⟩ := hp; exact hb.1) id
      | cons x y => exact absurd (show False by obtain ⟨_, _, _, _, _, hb⟩ := hp; exact hb.1) id
  | u :: vs, [] => by
    apply HP.ext; funext I h; apply propext
    constructor
    · intro hp; exact absurd ((Af _ _ _ _).1 hp).1 id
    · intro hp
      cases vs with
      | nil => exact absurd (show False by obtain ⟨_, _, _, _, _, hb⟩ := hp; exact hb.1) id
      | cons x y => exact absurd (show False by obtain ⟨_, _, _, _, _, hb⟩ := hp; exact hb.1) id
theorem V.BM {vs : List Value} {ls : List (List Int)} (H : V w0 w (Ae e k vs ls • jR e k v l • F)) : V w0 w (Ae e k (vs ++ [v]) (ls ++ [l]) • F) := H.deep.of_eq (by rw [Go.Proofs.YtimndnfpcomhlaaGreatDoor.BM])
theorem V.Kw : ∀ {vs : List Value} {ls : List (List Int)} {F : HP} {j : Nat}, V w0 w (Ae e k vs ls • F) → j < ls.length →
    ∃ R : HP, V w0 w (jR e k (vs.getD j undef) (ls.getD j []) • R • F) ∧ ∀ l' w' F', V w0 w' (jR e k (vs.getD j undef) l' • R • F') → V w0 w' (Ae e k vs (ls.set j l') • F')
  | [], [], _, j, _, hj => by simp at hj
  | v :: vs, l :: ls, F, 0, H, _ => ⟨Ae e k vs ls, H.flat, fun l' w' F' H' => H'.deep⟩
  | v :: vs, l :: ls, F, j + 1, H, hj => by
    obtain ⟨R, h1, h2⟩ := V.Kw (j := j) H.flat.swap (by simpa using hj)
    refine ⟨R • jR e k v l, by simpa [dI] using h1, fun l' w' F' H' => ?_⟩
    have := h2 l' w' (jR e k v l • F') (H'.of_eq (by simp only [List.getD_cons_succ]; ac_rfl))
    exact this.swap.deep
  | [], _ :: _, _, _, H, _ => absurd H.fact.1 id
  | _ :: _, [], _, _, H, _ => absurd H.fact.1 id
theorem V.Rz {vs : List Value} {ls : List (List Int)} {j : Nat} (H : V w0 w (Ae e k vs ls • F)) (hj : j < ls.length) : mM w k (vs.getD j undef) (ls.getD j []) := by
  obtain ⟨R, h, _⟩ := H.Kw hj
  exact h.aP
end
end Go.Proofs.YtimndnfpcomhlaaGreatDoor
end
section
namespace Go.Proofs.YtimndnfpcomhlaaGreatDoor
open Go.RowKit
open _root_.Go.Proofs.Tryz
section
variable {w0 w : World} {F : HP} {e p ph pw pt pr pm : Nat} {s : aY} {k x place : Int} {hl : List qE} {base most : Int} {tx : Int → Option ByteArray} {v : Value}
theorem Oz (H : V w0 w (gK p hl base most • F)) : iU prog 111 #[.pointer (some ⟨p, 0, none⟩), .int .i64 k] w fun v w' =>
  v = .tuple #[.agg #[.string (Qc hl k).1, .int .i64 (Qc hl k).2], .bool (decide (0 ≤ k ∧ k < hl.length))] ∧ V w0 w' (gK p hl base most • F) := by
 have hb : hl.length ≤ 4096 := by obtain ⟨v, h, _⟩ := H.hist; exact h.1
 refine oP func111 ntmps111 ?_
 refine jg (jL (fE (l := [_, _]) H nV O) ?_)
 rintro _ w1 ⟨b1, rfl, H1⟩
 refine tJ O (bM O (aV (fJ O O) (qC O (fun h1 => ?_) (fun h1 => ?_))))
 ·(try simp only [aH] at h1)
  refine dH (dH (dH (dH (pW O O (iT (EY (jg (aV (gB (zl := [.string .empty, .int .i64 0]) (pl := [(0, 1), (1, 1)]) [_, _] iy nV O (fun w => by kernel_rfl) O (.zero (zs := [.string .empty]) O (.zero (zs := [.int .i64 0]) O .nil)) O) (aI (dh 0 (l' := [_, _]) (us := [_, _]) H1 jd O O O (aF (aF bK)) O O) ?_)))))))))
  rintro _ w2 H2
  refine iW O (aK ?_)
  refine rW (.inl O) (QM results111 O O iy O (by rw [Qv]; rfl) (H2).get.2) ?_
  exact ⟨by unfold Qc; rw [if_neg (by omega), decide_eq_false (by omega)], H2.right⟩
 ·(try simp only [aH] at h1)
  refine bU (cZ O (bU (cZ O (bU (dZ O func67 (nN H1.f2) ?_)))))
  rintro _ w3 ⟨rfl, H3⟩
  refine bU (aV (Gv O O) (lV O O (kK O (fun h2 => ?_) (fun h2 => ?_))))
  ·(try simp only [aH] at h2)
   refine jg (aV (gB (zl := [.string .empty, .int .i64 0]) (pl := [(0, 1), (1, 1)]) [_, _] iy nV O (fun w => by kernel_rfl) O (.zero (zs := [.string .empty]) O (.zero (zs := [.int .i64 0]) O .nil)) O) (aI (dh 0 (l' := [_, _]) (us := [_, _]) H3.f2 jd O O O (aF (aF bK)) O O) ?_))
   rintro _ w4 H4
   refine iW O (aK ?_)
   refine rW (.inl O) (QM results111 O O iy O (by rw [Qv]; rfl) (H4).get.2) ?_
   exact ⟨by unfold Qc; rw [if_neg (by omega), decide_eq_false (by omega)], H4.right⟩
  ·(try simp only [aH] at h2)
   refine iq (aO ?_)
   obtain ⟨m, rfl⟩ := Int.eq_ofNat_of_zero_le (show 0 ≤ k by omega)
   obtain ⟨LM, sS, vC⟩ := (H3).hist
   refine aC (ny O O (bf 0 fO O kD O (bf 0 fP O iZ O (dQ bT O (vC).get.2 O (cZ O ?_)))))
   obtain ⟨abd, abe, abf, V9⟩ := Rd.vS ((vC.f2).aP) (by omega)
   cases V9
   refine aV (gU bT jd O O (by omega)) (aV (jC (ys := [_, _]) ((vC.f2).aP) (by omega) iy O jd O (kH wM (by omega) default) O) (aI (dh 0 (l' := [_, _]) (us := [_, _]) vC.f3 jd O O O (aF (aF bK)) O O) ?_))
   rintro _ w6 H6
   refine iW O ?_
   refine rW (.inl O) (QM results111 O O iy O (by rw [Qv]; rfl) (H6).get.2) ?_
   have ZQ := H6.f3.f3
   have Xg := V.BF sS ZQ
   exact ⟨by unfold Qc; rw [if_pos (by omega), decide_eq_true (by omega)]; rfl, Xg.f2.right⟩
theorem Ei {x0 x1 x2 x3 x4 x5 x6 x7 x8 x9 x10 x12 yV x14 x15 x16 x17 x18 x19 x20 x21 zM x23 x24 x25 zN x27 x28 x29 x30 x31 x32 Bq : Value} (H : V w0 w (dR e (.cells (x0 :: x1 :: x2 :: x3 :: x4 :: x5 :: x6 :: x7 :: x8 :: x9 :: x10 :: .pointer (some ⟨ph, 0, none⟩) :: x12 :: yV :: x14 :: x15 :: x16 :: x17 :: x18 :: x19 :: x20 :: x21 :: zM :: x23 :: x24 :: x25 :: zN :: x27 :: x28 :: x29 :: x30 :: x31 :: x32 :: Bq :: []).toArray 69 (0, 0)) • gK ph hl base most • F)) : iU prog 80 #[.pointer (some ⟨e, 0, none⟩), .int .i64 k] w fun v w' =>
    v = .string (BG hl k) ∧ V w0 w' (dR e (.cells (x0 :: x1 :: x2 :: x3 :: x4 :: x5 :: x6 :: x7 :: x8 :: x9 :: x10 :: .pointer (some ⟨ph, 0, none⟩) :: x12 :: yV :: x14 :: x15 :: x16 :: x17 :: x18 :: x19 :: x20 :: x21 :: zM :: x23 :: x24 :: x25 :: zN :: x27 :: x28 :: x29 :: x30 :: x31 :: x32 :: Bq :: []).toArray 69 (0, 0)) • gK ph hl base most • F) := by
  refine oP func80 ntmps80 ?_
  refine lZ O (bM O (dM O (bf 11 ah O sizeOf48 O (dQ lC O (H).get.2 O (cZ O (dZ O func111 (Oz H.f2) ?_))))))
  rintro _ w1 ⟨rfl, H1⟩
  refine cZ O (rO O O (rO O O (jL (fE (l := [_, _]) H1 nV O) ?_)))
  rintro _ w2 ⟨b2, rfl, H2⟩
  refine aI (dh 0 (l' := [_, _]) (us := [_, _]) H2 jd O O O (aF (aF bK)) O O) ?_
  rintro _ w3 H3
  refine gY O (jg (bf 0 iy O sizeOf9 O (dQ kG O (H3).get.2 O (iW O (fB results80 O ?_)))))
  exact ⟨O, H3.right.f2⟩
theorem TN {t : ByteArray} (h : tx k = some t) : (qI tx k).getD (.string .empty) = .string t ∧ (qI tx k).isSome = true := by unfold qI; rw [h]; exact ⟨rfl, rfl⟩
theorem FD : (qI tx k).isSome = (tx k).isSome := by unfold qI; cases tx k <;> rfl
theorem rJ {x0 x1 x3 x4 x5 x6 x7 x8 x9 x10 x12 yV x14 x15 x16 x17 x18 x19 x20 x21 zM x23 x24 x25 zN x27 x28 x29 x30 x31 x32 Bq : Value} (H : V w0 w (dR e (.cells (x0 :: x1 :: .pointer (some ⟨pw, 0, none⟩) :: x3 :: x4 :: x5 :: x6 :: x7 :: x8 :: x9 :: x10 :: .pointer (some ⟨ph, 0, none⟩) :: x12 :: yV :: x14 :: x15 :: x16 :: x17 :: x18 :: x19 :: x20 :: x21 :: zM :: x23 :: x24 :: x25 :: zN :: x27 :: x28 :: x29 :: x30 :: x31 :: x32 :: Bq :: []).toArray 69 (0, 0)) • dR pw (.cells #[v, .map (some pt)] 81 (0, 0)) • iI qH pt (qI tx) • gK ph hl base most • F)) :
    iU prog 70 #[.pointer (some ⟨e, 0, none⟩), .int .i64 k] w fun v' w' =>
    v' = .string (jT hl tx k) ∧ V w0 w' (dR e (.cells (x0 :: x1 :: .pointer (some ⟨pw, 0, none⟩) :: x3 :: x4 :: x5 :: x6 :: x7 :: x8 :: x9 :: x10 :: .pointer (some ⟨ph, 0, none⟩) :: x12 :: yV :: x14 :: x15 :: x16 :: x17 :: x18 :: x19 :: x20 :: x21 :: zM :: x23 :: x24 :: x25 :: zN :: x27 :: x28 :: x29 :: x30 :: x31 :: x32 :: Bq :: []).toArray 69 (0, 0)) • dR pw (.cells #[v, .map (some pt)] 81 (0, 0)) • iI qH pt (qI tx) • gK ph hl base most • F) := by
  refine oP func70 ntmps70 ?_
  refine lZ O (aO (bM O (dM O (bf 0 ah O aJ O (bf 2 aA O kJ O (dQ iM O (H).get.2 O (dM O (bf 1 dP O sizeOf79 O (dQ mJ O (H.f2).get.2 O (cZ O (aV (NT (H.f3) mJ ay zeroValue9 O O) (cZ O (rO O O (rO O O (lU O (gY O (bM O (kK O (fun h1 => ?_) (fun h1 => ?_)))))))))))))))))))
  · (try simp only [aH] at h1)
    obtain ⟨tt, htt⟩ := Option.isSome_iff_exists.1 (FD (tx := tx) ▸ h1)
    refine bM O (iW O (aK (fB results70 O ?_)))
    exact ⟨by unfold jT; rw [htt]; show (qI tx k).getD (.string .empty) = _; rw [(TN htt).1]; rfl, H.f4.f4.f4.f4⟩
  · (try simp only [aH] at h1)
    have htt : tx k = none := by have := FD (tx := tx) (k := k) ▸ h1; simpa using this
    refine iq (bM O (cZ O (dZ O func80 (Ei H.f4.f2) ?_)))
    rintro _ w1 ⟨rfl, H1⟩
    refine iW O (fB results70 O ?_)
    exact ⟨by unfold jT; rw [htt]; rfl, H1.f2.f4.f4.f4⟩
end
theorem OA {D : List Int} {P : Int → Nat} {k : Int} (h : (Iu D P k).isSome = true) : k ∈ D := by
  unfold Iu at h
  split at h
  · assumption
  · cases h
theorem LY {D : List Int} {P : Int → Nat} {k : Int} (h : (Iu D P k).isSome = false) : k ∉ D := by
  unfold Iu at h
  split at h
  · cases h
  · assumption
def qO (x : Int × ByteArray) : List Value := [.int .i64 x.1, .string x.2]
theorem OB {hl : List qE} {tx : Int → Option ByteArray} {place : Int} {i : Nat} (h : BH hl tx place i = true) : qG hl tx place (i + 1) = qG hl tx place i ++ [((i : Int), jT hl tx i)] := by
  unfold qG; rw [List.range_succ, List.filter_append, List.map_append]; simp [List.filter, h]
theorem II {hl : List qE} {tx : Int → Option ByteArray} {place : Int} {i : Nat} (h : BH hl tx place i = false) : qG hl tx place (i + 1) = qG hl tx place i := by
  unfold qG; rw [List.range_succ, List.filter_append, List.map_append]; simp [List.filter, h]
theorem vJ (hl : List qE) (tx : Int → Option ByteArray) (place : Int) (i : Nat) : (qG hl tx place i).length ≤ i := by
  unfold qG; rw [List.length_map]
  exact Nat.le_trans (List.length_filter_le _ _) (by simp)
def ug (E : List (List Int)) (a : Nat) : List (List Int) := E.drop a ++ E.take a
def Wh (n a i : Nat) : Nat := if i = 0 then a else (a + (i - 1)) % n
theorem TP {n a i : Nat} : yI n (Wh n a i) (min (i : Int) 1) = Wh n a (i + 1) := by
  cases i with
  | zero =>
    show (((a : Int) + min ((0 : Nat) : Int) 1) % (n : Int)).toNat = (a + (0 + 1 - 1)) % n
    rw [show min ((0 : Nat) : Int) 1 = 0 by omega, Int.add_zero, show ((a : Int) % (n : Int)) = ((a % n : Nat) : Int) from rfl, Int.toNat_natCast]
    rfl
  | succ j =>
    show (((((a + (j + 1 - 1)) % n : Nat) : Int) + min ((j + 1 : Nat) : Int) 1) % (n : Int)).toNat = (a + (j + 1 + 1 - 1)) % n
    rw [show min ((j + 1 : Nat) : Int) 1 = ((1 : Nat) : Int) by omega, show ((((a + (j + 1 - 1)) % n : Nat) : Int) + ((1 : Nat) : Int)) % (n : Int) = ((((a + (j + 1 - 1)) % n + 1) % n : Nat) : Int) from rfl, Int.toNat_natCast, Nat.mod_add_mod]
    congr 1
theorem TQ {E : List (List Int)} {a i : Nat} (h : i < E.length) (ha : a < E.length) : (ug E a).getD i [] = E.getD (Wh E.length a (i + 1)) [] := by
  unfold ug Wh
  rw [if_neg (by omega), Nat.add_sub_cancel, List.getD_eq_getElem?_getD, List.getD_eq_getElem?_getD]
  by_cases hi : i < E.length - a
  · rw [List.getElem?_append_left (by simpa using hi), List.getElem?_drop, Nat.mod_eq_of_lt (by omega)]
  · rw [List.getElem?_append_right (by simpa using hi), List.length_drop, List.getElem?_take, if_pos (by omega)]
    have : (a + i) % E.length = i - (E.length - a) := by
      rw [show a + i = (i - (E.length - a)) + E.length by omega, Nat.add_mod_right, Nat.mod_eq_of_lt (by omega)]
    rw [this]
theorem IJ {α : Type _} {l : List α} {k : Nat} {d : α} (h : k < l.length) : l.take (k + 1) = l.take k ++ [l.getD k d] := by rw [List.take_succ_eq_append_getElem h, List.getD_eq_getElem?_getD, List.getElem?_eq_getElem h]; rfl
theorem Ky (E : List (List Int)) (a : Nat) : (ug E a).length = E.length := by unfold ug; simp; omega
section
variable {w0 w : World} {F : HP} {e p ph pw pt pr pm pb : Nat} {s : aY} {k x place : Int} {hl : List qE} {base most cls : Int} {tx : Int → Option ByteArray} {v pv : Value} {U : Int → List (List gV)} {put : List gV} {xs : List Value} {inn run whole : Bool} {E : List (List Int)} {a : Nat} {L : List Int} {ZW mk : Int}
theorem AX {x0 x1 x2 x3 x4 x5 x6 x7 x8 x9 x10 x12 yV x14 x15 x16 x17 x18 x19 x20 x21 zM x23 x24 x25 zN x27 x28 x29 x30 x31 x32 Bq : Value} (H : V w0 w (dR e (.cells (x0 :: x1 :: x2 :: x3 :: x4 :: x5 :: x6 :: x7 :: x8 :: x9 :: x10 :: .pointer (some ⟨ph, 0, none⟩) :: x12 :: yV :: x14 :: x15 :: x16 :: x17 :: x18 :: x19 :: x20 :: x21 :: zM :: x23 :: x24 :: x25 :: zN :: x27 :: x28 :: x29 :: x30 :: x31 :: x32 :: Bq :: []).toArray 69 (0, 0)) • F)) : iU prog 17 #[.pointer (some ⟨e, 0, none⟩)] w fun v w' => v = .bool false ∧ w = w' := by
  refine ji func17 ntmps17 ?_
  refine lZ O (bM O (aV (kV underlying28 O O) (qC O (fun h1 => ?_) (fun h1 => ?_))))
  · (try simp only [aH] at h1)
    exfalso; first | contradiction | omega
  · (try simp only [aH] at h1)
    refine bU (cZ O (bU (dM O (bU (bf 11 ah O sizeOf48 O (bU (dQ lC O (H).get.2 O (bU (aV (kV lC O O) (lV O O (iW O (fB results17 O ?_))))))))))))
    exact ⟨O, O⟩
theorem rM {x0 x1 x4 x5 x6 x7 x8 x9 x11 x12 yV x14 x15 x17 x18 x19 x20 x21 zM x23 x24 x25 zN x27 x29 x30 x31 : Value} (H : V w0 w (dR e (.cells (x0 :: x1 :: .pointer (some ⟨pw, 0, none⟩) :: .map (some pm) :: x4 :: x5 :: x6 :: x7 :: x8 :: x9 :: .bool run :: x11 :: x12 :: yV :: x14 :: x15 :: .bool inn :: x17 :: x18 :: x19 :: x20 :: x21 :: zM :: x23 :: x24 :: x25 :: zN :: x27 :: .int .i64 cls :: x29 :: x30 :: x31 :: .bool whole :: pv :: []).toArray 69 (0, 0)) • dR pw (.cells #[.int .i64 k, .map (some pt)] 81 (0, 0)) • vW pm U • Row 124 3 pv put.length xs • F)) (hU : (U k).length ≤ 16384) :
    iU prog 38 #[.pointer (some ⟨e, 0, none⟩)] w fun v' w' => v' = .int .i64 (qy (U k) inn put (cls == 3 && whole) run) ∧
      V w0 w' (dR e (.cells (x0 :: x1 :: .pointer (some ⟨pw, 0, none⟩) :: .map (some pm) :: x4 :: x5 :: x6 :: x7 :: x8 :: x9 :: .bool run :: x11 :: x12 :: yV :: x14 :: x15 :: .bool inn :: x17 :: x18 :: x19 :: x20 :: x21 :: zM :: x23 :: x24 :: x25 :: zN :: x27 :: .int .i64 cls :: x29 :: x30 :: x31 :: .bool whole :: pv :: []).toArray 69 (0, 0)) • dR pw (.cells #[.int .i64 k, .map (some pt)] 81 (0, 0)) • vW pm U • Row 124 3 pv put.length xs • F) := by
  refine ji func38 ntmps38 ?_
  refine lZ O (lZ O ?_)
  refine Dz [(0, _)] (fun (_ : Unit) => [(3, .int .i64 ((U k).length : Int))]) (fun (_ : Unit) W => V w0 W (dR e (.cells (x0 :: x1 :: .pointer (some ⟨pw, 0, none⟩) :: .map (some pm) :: x4 :: x5 :: x6 :: x7 :: x8 :: x9 :: .bool run :: x11 :: x12 :: yV :: x14 :: x15 :: .bool inn :: x17 :: x18 :: x19 :: x20 :: x21 :: zM :: x23 :: x24 :: x25 :: zN :: x27 :: .int .i64 cls :: x29 :: x30 :: x31 :: .bool whole :: pv :: []).toArray 69 (0, 0)) • dR pw (.cells #[.int .i64 k, .map (some pt)] 81 (0, 0)) • vW pm U • Row 124 3 pv put.length xs • F)) sJ ?_ ?_
  · rintro _ w1 HJ
    dsimp only [List.cons_append, List.nil_append]
    refine aO (bM O (dM O (bf 16 ah O aQ O (dQ bW O (HJ).get.2 O (qC O (fun h1 => ?_) (fun h1 => ?_))))))
    · (try simp only [aH] at h1)
      have hin := h1
      refine bU (cZ O (bU (dM O (bU (bf 33 ah O bV O (bU (dQ aU O (HJ).get.2 O (bU (aV (iE ((HJ.f4).aP) aU O) (bU (aV (fZ O O) (pW O O (qC O (fun h2 => ?_) (fun h2 => ?_))))))))))))))
      · (try simp only [aH] at h2)
        have hno : put.isEmpty = false := by rw [pV]; exact decide_eq_false (by omega)
        refine bU (cZ O (bU (dM O (bU (bf 28 ah O aj O (bU (dQ ay O (HJ).get.2 O (bU (aV (ig O O) (bU (qC O (fun h3 => ?_) (fun h3 => ?_))))))))))))
        · (try simp only [aH] at h3)
          have hcl := h3
          refine bU (cZ O (bU (dM O (bU (bf 32 ah O aQ O (bU (dQ bW O (HJ).get.2 O (bU (pW O O (bU (qC O (fun h4 => ?_) (fun h4 => ?_))))))))))))
          · (try simp only [aH] at h4)
            have hwh := h4
            refine bU (cZ O (bU (dM O (bU (bf 0 ah O aJ O (bU (bf 10 aA O aQ O (bU (dQ bW O (HJ).get.2 O (bU (pW O O (bU (aV (oO O) (pW O O (kK O (fun h5 => ?_) (fun h5 => ?_))))))))))))))))
            · (try simp only [aH] at h5)
              have hrn := h5
              refine aC (cZ O (aV (gX O O (by omega)) (gY O (bM O (iW O (fB results38 O ?_))))))
              refine ⟨?_, HJ.f4.f4.f4.f4⟩
              congr 1
              unfold qy
              first
                | exact absurd hrn (by decide)
                | (simp [hin]; done)
                | (simp [hin, hno]; done)
                | (simp [hin, hno, hcl]; done)
                | (simp [hin, hno, hcl, hwh]; done)
                | (simp [hin, hno, hcl, hwh, hrn]; done)
            · (try simp only [aH] at h5)
              have hrn := h5
              refine iq (bM O (iW O (fB results38 O ?_)))
              refine ⟨?_, HJ.f4.f4.f4.f4⟩
              congr 1
              unfold qy
              first
                | exact absurd hrn (by decide)
                | (simp [hin]; done)
                | (simp [hin, hno]; done)
                | (simp [hin, hno, hcl]; done)
                | (simp [hin, hno, hcl, hwh]; done)
                | (simp [hin, hno, hcl, hwh, hrn]; done)
          · (try simp only [aH] at h4)
            have hwh := h4
            refine dH (dH (dH (dH (dH (bU (lV O O (bU (aV (oO O) (pW O O (kK O (fun h6 => ?_) (fun h6 => ?_)))))))))))
            · (try simp only [aH] at h6)
              have hrn := h6
              refine aC (cZ O (aV (gX O O (by omega)) (gY O (bM O (iW O (fB results38 O ?_))))))
              refine ⟨?_, HJ.f4.f4.f4.f4⟩
              congr 1
              unfold qy
              first
                | exact absurd hrn (by decide)
                | (simp [hin]; done)
                | (simp [hin, hno]; done)
                | (simp [hin, hno, hcl]; done)
                | (simp [hin, hno, hcl, hwh]; done)
                | (simp [hin, hno, hcl, hwh, hrn]; done)
            · (try simp only [aH] at h6)
              have hrn := h6
              refine iq (bM O (iW O (fB results38 O ?_)))
              refine ⟨?_, HJ.f4.f4.f4.f4⟩
              congr 1
              unfold qy
              first
                | exact absurd hrn (by decide)
                | (simp [hin]; done)
                | (simp [hin, hno]; done)
                | (simp [hin, hno, hcl]; done)
                | (simp [hin, hno, hcl, hwh]; done)
                | (simp [hin, hno, hcl, hwh, hrn]; done)
        · (try simp only [aH] at h3)
          have hcl := h3
          refine dH (dH (dH (dH (bU (lV O O (bU (cZ O (dH (dH (dH (dH (dH (bU (lV O O (bU (aV (oO O) (pW O O (kK O (fun h7 => ?_) (fun h7 => ?_)))))))))))))))))))
          · (try simp only [aH] at h7)
            have hrn := h7
            refine aC (cZ O (aV (gX O O (by omega)) (gY O (bM O (iW O (fB results38 O ?_))))))
            refine ⟨?_, HJ.f4.f4.f4.f4⟩
            congr 1
            unfold qy
            first
              | exact absurd hrn (by decide)
              | (simp [hin]; done)
              | (simp [hin, hno]; done)
              | (simp [hin, hno, hcl]; done)
              | (simp [hin, hno, hcl, hwh]; done)
              | (simp [hin, hno, hcl, hwh, hrn]; done)
          · (try simp only [aH] at h7)
            have hrn := h7
            refine iq (bM O (iW O (fB results38 O ?_)))
            refine ⟨?_, HJ.f4.f4.f4.f4⟩
            congr 1
            unfold qy
            first
              | exact absurd hrn (by decide)
              | (simp [hin]; done)
              | (simp [hin, hno]; done)
              | (simp [hin, hno, hcl]; done)
              | (simp [hin, hno, hcl, hwh]; done)
              | (simp [hin, hno, hcl, hwh, hrn]; done)
      · (try simp only [aH] at h2)
        have hno : put.isEmpty = true := by rw [pV]; exact decide_eq_true (by omega)
        refine dH (dH (dH (dH (dH (dH (sG (sG (sG (sG (dH (dH (sG (sG (sG (sG (sG (dH (dH (lV O O (iT (vO (iq (bM O (iW O (fB results38 O ?_)))))))))))))))))))))))))
        refine ⟨?_, HJ.f4.f4.f4.f4⟩
        congr 1
        unfold qy
        first
          | exact absurd hrn (by decide)
          | (simp [hin]; done)
          | (simp [hin, hno]; done)
          | (simp [hin, hno, hcl]; done)
          | (simp [hin, hno, hcl, hwh]; done)
          | (simp [hin, hno, hcl, hwh, hrn]; done)
    · (try simp only [aH] at h1)
      have hin := h1
      refine dH (dH (dH (dH (dH (dH (lV O O (cZ O (dH (dH (dH (dH (dH (dH (sG (sG (sG (sG (dH (dH (sG (sG (sG (sG (sG (dH (dH (lV O O (iT (vO (iq (bM O (iW O ?_))))))))))))))))))))))))))))))))
      refine fB results38 O ?_
      refine ⟨?_, HJ.f4.f4.f4.f4⟩
      congr 1
      unfold qy
      first
        | exact absurd hrn (by decide)
        | (simp [hin]; done)
        | (simp [hin, hno]; done)
        | (simp [hin, hno, hcl]; done)
        | (simp [hin, hno, hcl, hwh]; done)
        | (simp [hin, hno, hcl, hwh, hrn]; done)
  · skip
    refine aO ?_
    obtain ⟨D, P, hD1, hD2, HU⟩ := (H.f3).Vx
    have TR := HU.drew
    have qc := V.kp (TR.f5.f5.f5.f5.f5)
    refine xP [4, 9, 12, 13] qc O (jc 0 O qc O (kN 1 O qc O (fV 2 O qc 0 ah O aJ O (fV 3 O qc 3 aA O sizeOf63 O (jq 4 O qc (fun W hW => jV lD O ((Kp.h hW).f3).get.2 O) (jc 5 O qc O (kN 6 O qc O (fV 7 O qc 0 ah O aJ O (fV 8 O qc 2 aA O kJ O (jq 9 O qc (fun W hW => jV iM O ((Kp.h hW).f3).get.2 O) (kN 10 O qc O (fV 11 O qc 0 dP O aj O (jq 12 O qc (fun W hW => jV ay O ((Kp.h hW).f4).get.2 O) (jq 13 O qc (fun W hW => Ut (NS ((Kp.h hW)) lD ay zeroValue121 O O) (Rk D P k)) (jW 14 O qc (fun _ => iV O) (qp (bg (bM O (aV (Gw underlying121 O O) (kK O (fun h8 => ?_) (fun h8 => ?_)))))))))))))))))))))
    · (try simp only [aH] at h8)
      have hmem := OA h8
      rw [Oa hmem]
      have HF := TR.f2
      rw [sO hmem] at HF
      have HF2 := HF.flat
      refine aC (cZ O (dZ O func81 (Lr HF2) ?_))
      rintro _ w2 ⟨rfl, H2⟩
      have Ho3 := H2.f2.f2
      have Hc4 := V.of_eq Ho3 (by rw [← dI, ← sO hmem])
      have Ho5 := Hc4.f2
      have Hc6 := V.BJ hD1 hD2 Ho5
      refine lU O (bY ?_)
      refine nJ (()) ?_ ?_ ?_
      · exact (Sub.BU O (by first | (rw [hD2 _ hnm]; rfl) | (simp; done)) (Sub.nil _))
      · exact sJ
      · (try dsimp only)
        first | done | exact Hc6.f4.f2.f4.f4
    · (try simp only [aH] at h8)
      have hnm := LY h8
      have Zq := TR.f2.f2
      have Zr := V.BJ hD1 hD2 Zq
      refine fU ?_
      refine nJ (()) ?_ ?_ ?_
      · exact (Sub.BU O (by first | (rw [hD2 _ hnm]; rfl) | (simp; done)) (Sub.nil _))
      · exact sJ
      · (try dsimp only)
        first | done | exact Zr.f4.f2.f4.f4
theorem zG {x0 x2 x3 x4 x5 x6 x7 x8 x9 x10 x12 yV x14 x15 x16 x17 x18 x19 x20 x21 zM x23 x24 x25 zN x27 x28 x29 x30 x31 x32 Bq : Value} (H : V w0 w (dR e (.cells (x0 :: .pointer (some ⟨pr, 0, none⟩) :: x2 :: x3 :: x4 :: x5 :: x6 :: x7 :: x8 :: x9 :: x10 :: .pointer (some ⟨ph, 0, none⟩) :: x12 :: yV :: x14 :: x15 :: x16 :: x17 :: x18 :: x19 :: x20 :: x21 :: zM :: x23 :: x24 :: x25 :: zN :: x27 :: x28 :: x29 :: x30 :: x31 :: x32 :: Bq :: []).toArray 69 (0, 0)) • dL pr E a • F)) : iU prog 36 #[.pointer (some ⟨e, 0, none⟩)] w fun v' w' =>
  ∃ us, V w0 w' (Row 34 1 v' E.length us • Ae 21 .i32 us (ug E a) • dR e (.cells (x0 :: .pointer (some ⟨pr, 0, none⟩) :: x2 :: x3 :: x4 :: x5 :: x6 :: x7 :: x8 :: x9 :: x10 :: .pointer (some ⟨ph, 0, none⟩) :: x12 :: yV :: x14 :: x15 :: x16 :: x17 :: x18 :: x19 :: x20 :: x21 :: zM :: x23 :: x24 :: x25 :: zN :: x27 :: x28 :: x29 :: x30 :: x31 :: x32 :: Bq :: []).toArray 69 (0, 0)) • dL pr E a • F) := by
 obtain ⟨hE1, hE2, hE3⟩ := Df H.swap
 refine ji func36 ntmps36 ?_
 refine lZ O (aO (bM O (dZ O func17 (AX H) ?_)))
 rintro _ _ ⟨rfl, rfl⟩
 refine iT (vO (iq (lZ O (bM O (dM O (bf 0 ah O aJ O (bf 1 aA O sizeOf61 O (dQ nT O (H).get.2 O (dZ O func52 (wZ H.f2) ?_)))))))))
 rintro _ w2 ⟨pc2, rfl, H2⟩
 refine tJ O (bM O (dZ O func79 (Lh H2) ?_))
 rintro _ _ ⟨rfl, rfl⟩
 refine cZ O (iT (bn ?_))
 obtain ⟨R4, hR4, HR4⟩ := V.aar (H2)
 refine iR [(4, _), (17, _)] (fun (⟨i, u⟩ : Nat × Value) => [(3, u), (18, .int .i64 (i : Int))]) (fun (⟨i, u⟩ : Nat × Value) W => i ≤ E.length ∧ ∃ us, V w0 W (Row 34 1 u i us • Ae 21 .i32 us ((ug E a).take i) • dL pc2 E (Wh E.length a i) • R4)) (fun (⟨i, u⟩ : Nat × Value) => E.length - i) ((0, .slice none 0 0)) vT vT ⟨by omega, [], HR4.V8.jH none⟩ ?_
 rintro ⟨i, u⟩ w5 ⟨hi, us, HL⟩
 dsimp only [List.cons_append, List.nil_append]
 refine jg (aV (fJ O O) (qj (bI O (fun h1 => ?_) (fun h1 => ?_))))
 ·(try simp only [aH] at h1)
  refine iq (aO (bn (bM O (gY O (bM O (cZ O (aV (QK O O) (dZ O func62 (zU HL.f3) ?_))))))))
  rintro _ w6 ⟨u6, rfl, H6⟩
  have hne : ¬ E.length = 0 := by omega
  have HX := H6
  simp only [if_neg hne] at HX
  refine cZ O (rO O O (rO O O (lU O (gY O (aC (mQ O O (jL (pO (vs := [_]) HX fC dD zeroValue34 O O O (by decide) (aZ (by first | rfl | exact Rd.one ((HX).aP)) bK)) ?_)))))))
  rintro l7 w7 H7
  refine jL (iQ H7.f4 fC abg O O O ((H7).aP) (aZ (by first | rfl | exact Rd.one ((H7.f2).aP)) bK) (by omega) (by omega)) ?_
  rintro l8 w8 H8
  have Hd9 := H8.f2.right
  refine lU O (bY (aN (bg (aC (aV (gX O O (by omega)) (cZ O (bY ?_)))))))
  have HS := (Hd9.f3.f2.f3.f4).BM.f2
  refine fG ((i + 1, l8)) ?_ ?_ ?_ ?_
  ·exact vT
  ·exact vT
  ·(try dsimp only)
   first | done | exact ⟨by omega, _, by rw [IJ (d := []) (by rw [Ky]; omega), TQ (by omega) (by omega), ← TP]; exact HS⟩
  ·(try dsimp only); omega
 ·(try simp only [aH] at h1)
  refine iJ (aX ?_)
  obtain rfl : i = E.length := by omega
  have HK := HL
  rw [List.take_of_length_le (by rw [Ky]; exact Nat.le_refl _)] at HK
  subst hR4
  refine aX (dA (bg (bM O (iW O (fB results36 O ?_)))))
  exact ⟨_, HK.f3.right.f3.f4.f4.f4⟩
end
end Go.Proofs.YtimndnfpcomhlaaGreatDoor
end
