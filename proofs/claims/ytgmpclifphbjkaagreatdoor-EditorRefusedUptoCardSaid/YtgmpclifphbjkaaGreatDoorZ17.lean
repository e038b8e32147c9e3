import Derived.Test.YtgmpclifphbjkaaGreatDoorZ2
import Derived.Test.YtgmpclifphbjkaaGreatDoorZ16
import Derived.Test.YtgmpclifphbjkaaGreatDoorZ14
import Derived.Test.YtgmpclifphbjkaaGreatDoorZ13
import Derived.Test.YtgmpclifphbjkaaGreatDoorZ8
set_option linter.unusedSimpArgs false
set_option linter.unusedVariables false
/- Texts of mine, joined, their names in short: EdU EEdit Owns EdS EdS2. -/
section
namespace Go.Proofs.YtgmpclifphbjkaaGreatDoor
open Go.RowKit
open _root_.Go.Proofs.Tryz
theorem Qu (G : List (List eH)) : pW G [] = if G = [] then 6 else 0 := by unfold pW; cases G <;> simp
theorem NZ {G : List (List eH)} (h : G ≠ []) : OH G [] = (G.getLastD []).reverse.map rJ := by
  unfold OH jL
  rw [if_neg (by cases G <;> simp_all), if_pos rfl]
theorem TW {s : aY} (h : lg s) {G : List (List eH)} (h1 : dX G s.put ≤ dX s.here s.put) (h2 : ∀ g ∈ G, g ∈ s.here) : lg (s.iY G) := by
  obtain ⟨a1, a2, a3, a4, a5, a6⟩ := h
  refine ⟨a1, a2, a3, a4, ?_, ?_⟩
  · show dX (qY s.c.un s.c.place G s.c.place) s.put ≤ 16384
    rw [eX]; omega
  · intro k g hg
    have hg' : g ∈ qY s.c.un s.c.place G k := hg
    by_cases hk : k = s.c.place
    · subst hk; rw [eX] at hg'; exact a6 _ g (h2 g hg')
    · rw [qZ _ _ hk] at hg'; exact a6 k g hg'
theorem Ie (G : List (List eH)) (N : List eH) : dX G.dropLast N ≤ dX G N := by
  by_cases h : G = []
  · subst h; exact Nat.le_refl _
  · have := wR h
    unfold dX; omega
theorem N7 {s : aY} : s.iY s.here = s := by unfold aY.iY aY.here; rw [OI]
theorem Qv (b : List Int × Int × Int) (l : List eH) (x : eH) : aY.apps b (l ++ [x]) = aY.XD (aY.apps b l) x := by unfold aY.apps; rw [List.foldl_append]; rfl
section
variable {w0 w : World} {F : HP} {e p : Nat} {s : aY} {x : Int}
theorem Ll (H : aB w0 w (dD e s • F)) : fQ prog 15 #[.pointer (some ⟨e, 0, none⟩)] w fun v w' => v = .int .i64 s.pW ∧ aB w0 w' (dD e s.kZ • F) := by
 refine gX func15 ntmps15 ?_
 dsimp only [bg, Nat.reduceAdd]
 refine ay (ah (aV rfl (aA (aj (ay (ay (ah (aO rfl (dw rfl func51 (gJ H) ?_)))))))))
 rintro _ _ ⟨rfl, rfl⟩
 refine aV rfl (aA (aj (ay (ah (aO rfl (aU (bZ rfl rfl) (aA (aj (aH rfl (fun h1 => ?_) (fun h1 => ?_))))))))))
 ·(try simp only [aG] at h1)
  obtain ⟨hin, hpe⟩ := nZ h1
  refine ay (ah (aO rfl (aV rfl (aA (aj (aJ (aK (aP (.inl rfl) results15 rfl ?_))))))))
  rw [hpe]
  exact ⟨by simp [aY.pW, aY.kZ, hin], by rw [show s.kZ = s from by simp [aY.pW, aY.kZ, hin]]; exact H⟩
 ·(try simp only [aG] at h1)
  have hin := lq h1
  refine aS (aj (ay (ah (aO rfl (dw rfl func53 (ku H) ?_)))))
  rintro _ w2 H2
  obtain ⟨t, ht, HT⟩ : ∃ t, s.bG false = t ∧ aB w0 w2 (dD e t • F) := ⟨_, rfl, H2⟩
  obtain ⟨nD, nN, nO, oG, nP, nR, nS, nT, mG, lu, lC, lD, lF, lG, lH, lI, lJ, lK, lM, lN, cZ, bC, gG, dn⟩ := (HT).Ak
  refine aA (aj (ay (ah (aO rfl (dw rfl func57 (uw dn.f6.f5.f3) ?_)))))
  rintro _ w4 ⟨lp4, rfl, H4⟩
  refine dw rfl func58 (uP H4) ?_
  rintro _ w5 ⟨u5, fs5, rfl, Xz, H5⟩
  obtain ⟨ZL, ZM, ZN⟩ := Ce (t.c.un t.c.place)
  have HX := H5
  rw [ZL, ZM, ZN] at HX
  rw [Qu]
  obtain ⟨uu, rfl⟩ : ∃ q, q = u5 := ⟨_, rfl⟩
  obtain ⟨fs, rfl⟩ : ∃ q, q = fs5 := ⟨_, rfl⟩
  have hfs := Xz
  have Vs := HX.f2.f2
  have Vt := Vs
  have XV := Vt.f3.f4
  have UR := aB.sN XV
  refine aO rfl (nX rfl rfl (nX rfl rfl (aV rfl (aV rfl (aA (aj (ay (ay (ah (aO rfl (aU (bZ rfl rfl) (aA (aj (aH rfl (fun h2 => ?_) (fun h2 => ?_)))))))))))))))
  ·(try simp only [aG] at h2)
   have h0 : t.here = [] := by by_cases hx : t.here = []; exact hx; exact absurd (if_neg hx) h2
   refine ay (ah (aO rfl (aV rfl (aA (aj (aJ (aK (aP (.inl rfl) results15 rfl ?_))))))))
   have hE : s.pW = 6 := by unfold aY.pW; rw [if_pos hin, ht, if_pos h0]
   have hS : s.kZ = t.iY t.here.dropLast := by unfold aY.kZ; rw [if_pos hin]; dsimp only; rw [ht, if_pos h0, h0]; exact (h0 ▸ N7).symm
   exact ⟨by rw [hE]; show Value.int _ (if t.c.un t.c.place = [] then 6 else 0) = _; rw [if_pos (show t.c.un t.c.place = [] from h0)], by rw [hS]; exact aB.dG (s := t.iY t.here.dropLast) (TW cZ (Ie _ _) (fun g hg => List.dropLast_subset _ hg)) bC UR.f2.right.f2.right.f11.f11.f11.f11.f11.f6.f11.f9.f11.f11.f11⟩
  ·(try simp only [aG] at h2)
   have h0 : ¬ t.here = [] := fun hx => by rw [if_pos (show t.c.un t.c.place = [] from hx)] at h2; exact absurd h2 (by decide)
   refine aS (aj (ay (ay ?_)))
   have ZW : fs.map dH.says = (t.here.getLastD []).reverse.map rJ := hfs.trans (NZ h0)
   have hfl : fs.length ≤ 16384 := by
    have h9 := congrArg List.length ZW
    rw [List.length_map, List.length_map, List.length_reverse] at h9
    have h8 := wR h0
    have h7 : dX t.here t.put ≤ 16384 := cZ.2.2.2.2.1
    unfold dX at h7
    omega
   refine ah (aO rfl (aU (fB ((UR.f2).aT) underlying64 rfl) (aO rfl (aA (aj (bf ?_))))))
   obtain ⟨R10, XH, XI⟩ := aB.VX (UR.f4.f4.f4.f6)
   refine fM [(0, _), (24, _), (25, _)] (fun (i : Nat) => [(26, .int .i64 (i : Int))]) (fun (i : Nat) W => i ≤ fs.length ∧ aB w0 W (dJ nD (aY.apps (t.c.L, t.c.pt, t.c.mark) ((fs.take i).map dH.says)).1 (aY.apps (t.c.L, t.c.pt, t.c.mark) ((fs.take i).map dH.says)).2.1 (aY.apps (t.c.L, t.c.pt, t.c.mark) ((fs.take i).map dH.says)).2.2 • Row 120 3 uu fs.length (fs.flatMap dH.enc) • jT fs • dA e (.cells (.pointer (some ⟨nD, 0, none⟩) :: .pointer (some ⟨nN, 0, none⟩) :: .pointer (some ⟨nO, 0, none⟩) :: .map (some nP) :: .int .i64 t.c.mode :: .bool t.c.over :: .int .i64 t.c.last :: .int .i64 t.c.fr :: .int .i64 t.c.to :: .int .i64 t.c.res :: .bool t.c.run :: .pointer (some ⟨nR, 0, none⟩) :: .pointer (some ⟨nS, 0, none⟩) :: .bool t.given :: .bool t.minus :: .int .i64 t.arg :: .bool t.inn :: lu :: lC :: lD :: lF :: lG :: lH :: lI :: lJ :: lK :: lM :: lN :: .int .i64 t.cls :: .bool t.killed :: .bool t.jy :: .bool t.argues :: .bool t.whole :: nT :: []).toArray 66 (0, 0)) • R10)) (fun (i : Nat) => fs.length - i) (0) (Sub.cons rfl (Sub.cons rfl (Sub.cons rfl (Sub.nil _)))) (Sub.cons rfl (Sub.nil _)) ⟨by omega, XI⟩ ?_
   rintro i FT ⟨hi, HL⟩
   dsimp only [List.cons_append, List.nil_append]
   refine ay (ah (aU (dL rfl rfl) (aA (aj (ay (aH rfl (fun h3 => ?_) (fun h3 => ?_)))))))
   ·(try simp only [aG] at h3)
    refine aS (aj (ay (bf (ay (ah ?_)))))
    obtain ⟨buu, ouu, cuu, euu⟩ := Rd.rG ((HL.f2).aT) (by omega)
    cases euu
    refine aU (eF underlying64 sizeOf120 rfl rfl (by omega)) (aU (gY (ys := [_, _, _]) ((HL.f2).aT) (by omega) underlying120 rfl sizeOf120 rfl (iQ dH.pI (by omega) default) rfl) ?_)
    have hkl : i < fs.length := by omega
    refine iy (dI (l := [_, _, _]) HL zeroValue120 rfl) ?_
    rintro _ w12 ⟨b12, rfl, rV⟩
    refine aI (bJ 0 (l' := [_, _, _]) (us := [_, _, _]) rV sizeOf120 rfl rfl rfl (aC (by first | rfl | assumption) (aC (by first | rfl | exact Rd.one (((rV.f4).jQ hkl).1)) (aC (by first | rfl | exact Rd.one (((rV.f4).jQ hkl).2)) bn))) rfl rfl) ?_
    rintro _ MB vZ
    refine aA (aj ?_)
    have TY := vZ.drew
    have wU := aB.kp (TY.f5.f5.f5.f5.f5)
    refine uH [4, 5] wU rfl (fU 0 rfl wU rfl (iT 1 rfl wU rfl (dP 2 rfl wU 0 underlying66 rfl sizeOf62 rfl (dP 3 rfl wU 0 underlying62 rfl sizeOf57 rfl (gQ 4 rfl wU (fun W hW => iI underlying57 rfl ((Kp.h hW).f5).get.2 rfl) (gQ 5 rfl wU (fun W hW => bU underlying120 rfl sizeOf120 rfl rfl ((Kp.h hW)).get.2) (jH 6 rfl (rU rfl func59 (F6 TY.f2 (fun W HW => ((HW.f3).jQ hkl).1) (fun W HW => ((HW.f3).jQ hkl).2))) ?_)))))))
    rintro _ JE ⟨rfl, uX⟩
    have Ku := aB.kp (uX.f5.f5.f5.f5.f5)
    refine fA Ku (by kernel_rfl) ?_
    refine mg (aQ (aj (ah (aU (eP rfl rfl (by omega)) (aO rfl (aA ?_))))))
    refine dK (i + 1) ?_ ?_ ?_ ?_
    ·exact (Sub.cons rfl (Sub.nil _))
    ·exact (Sub.cons rfl (Sub.cons rfl (Sub.cons rfl (Sub.nil _))))
    ·(try dsimp only)
     first | done | exact ⟨by omega, by rw [yY hkl, Qv]; exact uX.f2.right.f4.f4.f4.f4⟩
    ·(try dsimp only); omega
   ·(try simp only [aG] at h3)
    refine fG (aX ?_)
    have hil : i = fs.length := by omega
    have HB := HL
    rw [hil, List.take_length] at HB
    subst XH
    refine aX (bM (aj (ay (ah (aO rfl (aO rfl (bH rfl (aZ 32 underlying66 rfl sizeOf4 rfl (aI (aN 32 (l' := [_, _, _, _, _, _, _, _, _, _, _, _, _, _, _, _, _, _, _, _, _, _, _, _, _, _, _, _, _, _, _, _, _, _]) HB.f4 sizeOf4 rfl rfl (by first | rfl | assumption) rfl rfl) ?_)))))))))
    rintro _ P8 yQ
    refine bH rfl (aZ 0 underlying66 rfl sizeOf62 rfl (aZ 10 underlying62 rfl sizeOf4 rfl (aI (aN 10 (l' := [_, _, _, _, _, _, _, _, _, _, _, _, _, _, _, _, _, _, _, _, _, _, _, _, _, _, _, _, _, _, _, _, _, _]) yQ sizeOf4 rfl rfl (by first | rfl | assumption) rfl rfl) ?_)))
    rintro _ w16 qH
    refine aA (aj (ay (ah (aV rfl (aA (aj (aJ (aP (.inl rfl) results15 rfl ?_))))))))
    rw [ZW] at qH
    have hE : s.pW = 0 := by unfold aY.pW; rw [if_pos hin, ht, if_neg h0]
    have hS : s.kZ = ((t.iY t.here.dropLast).ES ((t.here.getLastD []).reverse.map rJ)).wO := by unfold aY.kZ; rw [if_pos hin]; dsimp only; rw [ht, if_neg h0]
    exact ⟨by rw [hE], by rw [hS]; exact aB.dG (s := ((t.iY t.here.dropLast).ES ((t.here.getLastD []).reverse.map rJ)).wO) (TW cZ (Ie _ _) (fun g hg => List.dropLast_subset _ hg)) bC qH.f3.right.f3.right.f11.f11.f11.f11.f11.f8.f11.f10.f11.f11.f11⟩
end
end Go.Proofs.YtgmpclifphbjkaaGreatDoor
end
section
namespace Go.Proofs.YtgmpclifphbjkaaGreatDoor
open Go.RowKit
open _root_.Go.Proofs.Tryz
structure zC where
  kd : Int
  a : Int
  b : Int
  back : Bool
  text : List Int
structure kQ where
  kd : Int
  a : Int
  b : Int
  back : Bool
  v : Value
  text : List Int
instance : Inhabited kQ := ⟨⟨0, 0, 0, false, .slice none 0 0, []⟩⟩
def kQ.enc (p : kQ) : List Value := [.int .i64 p.kd, .int .i64 p.a, .int .i64 p.b, .bool p.back, p.v]
theorem kQ.pI (p : kQ) : p.enc.length = 5 := rfl
def kQ.m (p : kQ) : zC := ⟨p.kd, p.a, p.b, p.back, p.text⟩
def kQ.Reads (W : World) (p : kQ) : Prop := jG W .i32 p.v p.text ∧ p.text.length ≤ 35184372087808
def aY.edit (s : aY) (p : zC) : aY :=
  if p.kd = 0 then s.jM p.text else
  if p.kd = 1 then s.y9 p.text else
  if p.kd = 2 then s.eY p.a p.b [] else
  if p.kd = 3 then s.eY p.a p.b p.text else
  if p.kd = 4 then s.rX p.a p.b p.back else
  if p.kd = 5 then s.ng p.a p.b p.back else
  if p.kd = 6 then s.uo else
  if p.kd = 7 then s.xJ p.a else
  if p.kd = 8 then s.vU p.a else
  if p.kd = 9 then s.zo p.a else
  if p.kd = 10 then s.zq else
  if p.kd = 11 then s.kZ else
  if p.kd = 17 then s.yC p.a else s
section
variable {w0 w : World} {F : HP} {e : Nat} {s : aY} {v : Value} {p : zC}
theorem Lm (H : aB w0 w (dD e s • F)) (hr : iU w0 F .i32 v p.text) (hb : p.text.length ≤ 35184372087808) (hk : p.kd ≠ 13) :
  fQ prog 12 #[.pointer (some ⟨e, 0, none⟩), .agg #[.int .i64 p.kd, .int .i64 p.a, .int .i64 p.b, .bool p.back, v]] w fun _ w' => aB w0 w' (dD e (s.edit p) • F) := by
 refine gX func12 ntmps12 ?_
 dsimp only [bg, Nat.reduceAdd]
 refine ay (ah (iy (iq (l := [_, _, _, _, _]) H rfl rfl) ?_))
 rintro _ w1 ⟨b1, rfl, H1⟩
 refine aA (aj (ay (ah (aZ 0 underlying38 rfl sizeOf3 rfl (cO underlying3 rfl (H1).get.2 rfl (aA (aj (bf (ay (ah (aU (dW rfl rfl) (aV rfl (aA (aj (aH rfl (fun h1 => ?_) (fun h1 => ?_))))))))))))))))
 ·(try simp only [aG] at h1)
  have k0 := h1
  refine ah (aO rfl (aZ 4 underlying38 rfl sizeOf22 rfl (cO underlying22 rfl (H1).get.2 rfl (dw rfl func21 (Dc H1.f2 (fun W HW => hr _ (HW.right)) (by omega)) ?_))))
  rintro _ w2 ⟨rfl, H2⟩
  refine aA (aQ (dN (.inr rfl) results12 ?_))
  exact (show s.edit p = s.jM p.text from by unfold aY.edit; rw [if_pos k0]) ▸ H2.f2.right
 ·(try simp only [aG] at h1)
  have n0 := h1
  refine ay (ah (aU (dW rfl rfl) (aV rfl (aA (aj (aH rfl (fun h2 => ?_) (fun h2 => ?_)))))))
  ·(try simp only [aG] at h2)
   have k1 := h2
   refine ah (aO rfl (aZ 4 underlying38 rfl sizeOf22 rfl (cO underlying22 rfl (H1).get.2 rfl (dw rfl func45 (zB H1.f2 (fun W HW => hr _ (HW.right))) ?_))))
   rintro _ w3 ⟨rfl, H3⟩
   refine aA (aQ (dN (.inr rfl) results12 ?_))
   exact (show s.edit p = s.y9 p.text from by unfold aY.edit; rw [if_neg n0, if_pos k1]) ▸ H3.f2.right
  ·(try simp only [aG] at h2)
   have n1 := h2
   refine ay (ah (aU (dW rfl rfl) (aV rfl (aA (aj (aH rfl (fun h3 => ?_) (fun h3 => ?_)))))))
   ·(try simp only [aG] at h3)
    have k2 := h3
    refine ah (aO rfl (aZ 1 underlying38 rfl sizeOf3 rfl (cO underlying3 rfl (H1).get.2 rfl (aZ 2 underlying38 rfl sizeOf3 rfl (cO underlying3 rfl (H1).get.2 rfl (dw rfl func46 (Bl H1.f2) ?_))))))
    rintro _ w4 ⟨rfl, H4⟩
    refine aA (aQ (dN (.inr rfl) results12 ?_))
    exact (show s.edit p = s.eY p.a p.b [] from by unfold aY.edit; rw [if_neg n0, if_neg n1, if_pos k2]) ▸ H4.f2.right
   ·(try simp only [aG] at h3)
    have n2 := h3
    refine ay (ah (aU (dW rfl rfl) (aV rfl (aA (aj (aH rfl (fun h4 => ?_) (fun h4 => ?_)))))))
    ·(try simp only [aG] at h4)
     have k3 := h4
     refine ah (aO rfl (aZ 1 underlying38 rfl sizeOf3 rfl (cO underlying3 rfl (H1).get.2 rfl (aZ 2 underlying38 rfl sizeOf3 rfl (cO underlying3 rfl (H1).get.2 rfl (aZ 4 underlying38 rfl sizeOf22 rfl (cO underlying22 rfl (H1).get.2 rfl (dw rfl func47 (kP H1.f2 (fun W HW => hr _ (HW.right))) ?_))))))))
     rintro _ w5 ⟨rfl, H5⟩
     refine aA (aQ (dN (.inr rfl) results12 ?_))
     exact (show s.edit p = s.eY p.a p.b p.text from by unfold aY.edit; rw [if_neg n0, if_neg n1, if_neg n2, if_pos k3]) ▸ H5.f2.right
    ·(try simp only [aG] at h4)
     have n3 := h4
     refine ay (ah (aU (dW rfl rfl) (aV rfl (aA (aj (aH rfl (fun h5 => ?_) (fun h5 => ?_)))))))
     ·(try simp only [aG] at h5)
      have k4 := h5
      refine ah (aO rfl (aZ 1 underlying38 rfl sizeOf3 rfl (cO underlying3 rfl (H1).get.2 rfl (aZ 2 underlying38 rfl sizeOf3 rfl (cO underlying3 rfl (H1).get.2 rfl (aZ 3 underlying38 rfl sizeOf4 rfl (cO underlying4 rfl (H1).get.2 rfl (dw rfl func22 (La H1.f2) ?_))))))))
      rintro _ w6 ⟨rfl, H6⟩
      refine aA (aQ (dN (.inr rfl) results12 ?_))
      exact (show s.edit p = s.rX p.a p.b p.back from by unfold aY.edit; rw [if_neg n0, if_neg n1, if_neg n2, if_neg n3, if_pos k4]) ▸ H6.f2.right
     ·(try simp only [aG] at h5)
      have n4 := h5
      refine ay (ah (aU (dW rfl rfl) (aV rfl (aA (aj (aH rfl (fun h6 => ?_) (fun h6 => ?_)))))))
      ·(try simp only [aG] at h6)
       have k5 := h6
       refine ah (aO rfl (aZ 1 underlying38 rfl sizeOf3 rfl (cO underlying3 rfl (H1).get.2 rfl (aZ 2 underlying38 rfl sizeOf3 rfl (cO underlying3 rfl (H1).get.2 rfl (aZ 3 underlying38 rfl sizeOf4 rfl (cO underlying4 rfl (H1).get.2 rfl (dw rfl func48 (Df H1.f2) ?_))))))))
       rintro _ w7 ⟨rfl, H7⟩
       refine aA (aQ (dN (.inr rfl) results12 ?_))
       exact (show s.edit p = s.ng p.a p.b p.back from by unfold aY.edit; rw [if_neg n0, if_neg n1, if_neg n2, if_neg n3, if_neg n4, if_pos k5]) ▸ H7.f2.right
      ·(try simp only [aG] at h6)
       have n5 := h6
       refine ay (ah (aU (dW rfl rfl) (aV rfl (aA (aj (aH rfl (fun h7 => ?_) (fun h7 => ?_)))))))
       ·(try simp only [aG] at h7)
        have k6 := h7
        refine ah (aO rfl (dw rfl func23 (Ld H1.f2) ?_))
        rintro _ w8 ⟨rfl, H8⟩
        refine aA (aQ (dN (.inr rfl) results12 ?_))
        exact (show s.edit p = s.uo from by unfold aY.edit; rw [if_neg n0, if_neg n1, if_neg n2, if_neg n3, if_neg n4, if_neg n5, if_pos k6]) ▸ H8.f2.right
       ·(try simp only [aG] at h7)
        have n6 := h7
        refine ay (ah (aU (dW rfl rfl) (aV rfl (aA (aj (aH rfl (fun h8 => ?_) (fun h8 => ?_)))))))
        ·(try simp only [aG] at h8)
         have k7 := h8
         refine ah (aO rfl (aZ 1 underlying38 rfl sizeOf3 rfl (cO underlying3 rfl (H1).get.2 rfl (dw rfl func24 (NU H1.f2) ?_))))
         rintro _ w9 ⟨rfl, H9⟩
         refine aA (aQ (dN (.inr rfl) results12 ?_))
         exact (show s.edit p = s.xJ p.a from by unfold aY.edit; rw [if_neg n0, if_neg n1, if_neg n2, if_neg n3, if_neg n4, if_neg n5, if_neg n6, if_pos k7]) ▸ H9.f2.right
        ·(try simp only [aG] at h8)
         have n7 := h8
         refine ay (ah (aU (dW rfl rfl) (aV rfl (aA (aj (aH rfl (fun h9 => ?_) (fun h9 => ?_)))))))
         ·(try simp only [aG] at h9)
          have k8 := h9
          refine ah (aO rfl (aZ 1 underlying38 rfl sizeOf3 rfl (cO underlying3 rfl (H1).get.2 rfl (dw rfl func25 (KT H1.f2) ?_))))
          rintro _ w10 ⟨rfl, oP⟩
          refine aA (aQ (dN (.inr rfl) results12 ?_))
          exact (show s.edit p = s.vU p.a from by unfold aY.edit; rw [if_neg n0, if_neg n1, if_neg n2, if_neg n3, if_neg n4, if_neg n5, if_neg n6, if_neg n7, if_pos k8]) ▸ oP.f2.right
         ·(try simp only [aG] at h9)
          have n8 := h9
          refine ay (ah (aU (dW rfl rfl) (aV rfl (aA (aj (aH rfl (fun h10 => ?_) (fun h10 => ?_)))))))
          ·(try simp only [aG] at h10)
           have k9 := h10
           refine ah (aO rfl (aZ 1 underlying38 rfl sizeOf3 rfl (cO underlying3 rfl (H1).get.2 rfl (dw rfl func49 (KU H1.f2) ?_))))
           rintro _ FT ⟨rfl, uV⟩
           refine aA (aQ (dN (.inr rfl) results12 ?_))
           exact (show s.edit p = s.zo p.a from by unfold aY.edit; rw [if_neg n0, if_neg n1, if_neg n2, if_neg n3, if_neg n4, if_neg n5, if_neg n6, if_neg n7, if_neg n8, if_pos k9]) ▸ uV.f2.right
          ·(try simp only [aG] at h10)
           have n9 := h10
           refine ay (ah (aU (dW rfl rfl) (aV rfl (aA (aj (aH rfl (fun h11 => ?_) (fun h11 => ?_)))))))
           ·(try simp only [aG] at h11)
            have k10 := h11
            refine ah (aO rfl (dw rfl func50 (KW H1.f2) ?_))
            rintro _ w12 ⟨rfl, rV⟩
            refine aA (aQ (dN (.inr rfl) results12 ?_))
            exact (show s.edit p = s.zq from by unfold aY.edit; rw [if_neg n0, if_neg n1, if_neg n2, if_neg n3, if_neg n4, if_neg n5, if_neg n6, if_neg n7, if_neg n8, if_neg n9, if_pos k10]) ▸ rV.f2.right
           ·(try simp only [aG] at h11)
            have n10 := h11
            refine ay (ah (aU (dW rfl rfl) (aV rfl (aA (aj (aH rfl (fun h12 => ?_) (fun h12 => ?_)))))))
            ·(try simp only [aG] at h12)
             have k11 := h12
             refine ah (aO rfl (dw rfl func15 (Ll H1.f2) ?_))
             rintro _ MB ⟨rfl, vZ⟩
             refine aA (aQ (dN (.inr rfl) results12 ?_))
             exact (show s.edit p = s.kZ from by unfold aY.edit; rw [if_neg n0, if_neg n1, if_neg n2, if_neg n3, if_neg n4, if_neg n5, if_neg n6, if_neg n7, if_neg n8, if_neg n9, if_neg n10, if_pos k11]) ▸ vZ.f2.right
            ·(try simp only [aG] at h12)
             have n11 := h12
             refine ay (ah (aU (dW rfl rfl) (aV rfl (aA (aj (aH rfl (fun h => by exfalso; (try simp only [aG] at h); exact hk h) (fun h13 => ?_)))))))
             (try simp only [aG] at h13)
             refine ay (ah (aU (dW rfl rfl) (aV rfl (aA (aj (aH rfl (fun h14 => ?_) (fun h14 => ?_)))))))
             ·(try simp only [aG] at h14)
              have k17 := h14
              refine ah (aO rfl (aZ 1 underlying38 rfl sizeOf3 rfl (cO underlying3 rfl (H1).get.2 rfl (dw rfl func28 (KX H1.f2) ?_))))
              rintro _ JE ⟨rfl, uX⟩
              refine aA (aQ (dN (.inr rfl) results12 ?_))
              exact (show s.edit p = s.yC p.a from by unfold aY.edit; rw [if_neg n0, if_neg n1, if_neg n2, if_neg n3, if_neg n4, if_neg n5, if_neg n6, if_neg n7, if_neg n8, if_neg n9, if_neg n10, if_neg n11, if_pos k17]) ▸ uX.f2.right
             ·(try simp only [aG] at h14)
              have n17 := h14
              refine aS (aQ (dN (.inr rfl) results12 ?_))
              rw [show s.edit p = s from by unfold aY.edit; rw [if_neg n0, if_neg n1, if_neg n2, if_neg n3, if_neg n4, if_neg n5, if_neg n6, if_neg n7, if_neg n8, if_neg n9, if_neg n10, if_neg n11, if_neg n17]]
              exact H1.right
end
end Go.Proofs.YtgmpclifphbjkaaGreatDoor
end
section
namespace Go.Proofs.YtgmpclifphbjkaaGreatDoor
open Go.RowKit
def xK (e : TypeId) (k : IntKind) : List Value → List (List Int) → HP
  | [], [] => emp
  | v :: vs, l :: ls => iG e k v l • xK e k vs ls
  | _, _ => fact False
section
variable {w0 w : World} {F : HP} {e : TypeId} {k : IntKind} {v : Value} {l : List Int}
theorem aB.Ua (H : aB w0 w F) : aB w0 w (xK e k [] [] • F) := H.DI
theorem aB.Lp : ∀ {vs : List Value} {ls : List (List Int)} {F : HP}, aB w0 w (xK e k vs ls • F) → vs.length = ls.length
  | [], [], _, _ => rfl
  | v :: vs, l :: ls, _, H => by simpa using aB.Lp (aB.right (aB.flat H))
  | [], _ :: _, _, H => absurd H.fact.1 id
  | _ :: _, [], _, H => absurd H.fact.1 id
theorem yZ : ∀ (vs : List Value) (ls : List (List Int)), (xK e k vs ls • iG e k v l) = xK e k (vs ++ [v]) (ls ++ [l])
  | [], [] => by show (emp • iG e k v l) = (iG e k v l • emp); rw [sU]
  | u :: vs, m :: ls => by
    show ((iG e k u m • xK e k vs ls) • iG e k v l) = (iG e k u m • xK e k (vs ++ [v]) (ls ++ [l]))
    rw [bV, yZ vs ls]
  | [], m :: ls => by
    apply HP.ext; funext I h; apply propext
    constructor
    · intro hp; exact absurd ((xO _ _ _ _).1 hp).1 id
    · intro hp
      cases ls with
      | nil => exact absurd (show False by obtain ⟨_, _, _, _, _, hb⟩ := hp; exact hb.1) id
      | cons x y => exact absurd (show False by obtain ⟨_, _, _, _, _, hb⟩ := hp; exact hb.1) id
  | u :: vs, [] => by
    apply HP.ext; funext I h; apply propext
    constructor
    · intro hp; exact absurd ((xO _ _ _ _).1 hp).1 id
    · intro hp
      cases vs with
      | nil => exact absurd (show False by obtain ⟨_, _, _, _, _, hb⟩ := hp; exact hb.1) id
      | cons x y => exact absurd (show False by obtain ⟨_, _, _, _, _, hb⟩ := hp; exact hb.1) id
theorem aB.yZ {vs : List Value} {ls : List (List Int)} (H : aB w0 w (xK e k vs ls • iG e k v l • F)) : aB w0 w (xK e k (vs ++ [v]) (ls ++ [l]) • F) := H.deep.of_eq (by rw [Go.Proofs.YtgmpclifphbjkaaGreatDoor.yZ])
theorem aB.Ig : ∀ {vs : List Value} {ls : List (List Int)} {F : HP} {j : Nat}, aB w0 w (xK e k vs ls • F) → j < ls.length →
    ∃ R : HP, aB w0 w (iG e k (vs.getD j undef) (ls.getD j []) • R • F) ∧ ∀ l' w' F', aB w0 w' (iG e k (vs.getD j undef) l' • R • F') → aB w0 w' (xK e k vs (ls.set j l') • F')
  | [], [], _, j, _, hj => by simp at hj
  | v :: vs, l :: ls, F, 0, H, _ => ⟨xK e k vs ls, H.flat, fun l' w' F' H' => H'.deep⟩
  | v :: vs, l :: ls, F, j + 1, H, hj => by
    obtain ⟨R, h1, h2⟩ := aB.Ig (j := j) H.flat.swap (by simpa using hj)
    refine ⟨R • iG e k v l, by simpa [bV] using h1, fun l' w' F' H' => ?_⟩
    have := h2 l' w' (iG e k v l • F') (H'.of_eq (by simp only [List.getD_cons_succ]; ac_rfl))
    exact this.swap.deep
  | [], _ :: _, _, _, H, _ => absurd H.fact.1 id
  | _ :: _, [], _, _, H, _ => absurd H.fact.1 id
theorem aB.O8 {vs : List Value} {ls : List (List Int)} {j : Nat} (H : aB w0 w (xK e k vs ls • F)) (hj : j < ls.length) : jG w k (vs.getD j undef) (ls.getD j []) := by
  obtain ⟨R, h, _⟩ := H.Ig hj
  exact h.aT
end
end Go.Proofs.YtgmpclifphbjkaaGreatDoor
end
section
namespace Go.Proofs.YtgmpclifphbjkaaGreatDoor
open Go.RowKit
open _root_.Go.Proofs.Tryz
section
variable {w0 w : World} {F : HP} {e p ph pw pt pr pm : Nat} {s : aY} {k x place : Int} {hl : List mM} {base most : Int} {tx : Int → Option ByteArray} {v : Value}
theorem Lr (H : aB w0 w (dZ p hl base most • F)) : fQ prog 171 #[.pointer (some ⟨p, 0, none⟩), .int .i64 k] w fun v w' =>
  v = .tuple #[.agg #[.string (Nz hl k).1, .int .i64 (Nz hl k).2], .bool (decide (0 ≤ k ∧ k < hl.length))] ∧ aB w0 w' (dZ p hl base most • F) := by
 have hb : hl.length ≤ 4096 := by obtain ⟨v, h, _⟩ := H.hist; exact h.1
 refine gX func171 ntmps171 ?_
 dsimp only [bg, Nat.reduceAdd]
 refine ay (ah (iy (dI (l := [_, _]) H zeroValue152 rfl) ?_))
 rintro _ w1 ⟨b1, rfl, H1⟩
 refine aV rfl (aA (aj (ay (ay (ah (aO rfl (aU (dL rfl rfl) (jo rfl (fun h1 => ?_) (fun h1 => ?_)))))))))
 ·(try simp only [aG] at h1)
  refine bI (bI (bI (bI (jO rfl rfl (aA (aj (yL (ay (ah (aU (dV (zl := [.string .empty, .int .i64 0]) (pl := [(0, 1), (1, 1)]) [_, _] underlying152 zeroValue152 rfl (fun w => by kernel_rfl) rfl (.zero (zs := [.string .empty]) rfl (.zero (zs := [.int .i64 0]) rfl .nil)) rfl) (aI (bJ 0 (l' := [_, _]) (us := [_, _]) H1 sizeOf152 rfl rfl rfl (aC (by first | rfl | assumption) (aC (by first | rfl | assumption) bn)) rfl rfl) ?_)))))))))))
  rintro _ w2 H2
  refine aV rfl (aA (aj (aJ (aK ?_))))
  refine oq (.inl rfl) (Ou results171 rfl rfl underlying152 rfl (by rw [show (prog.info? 152).map (·.size) = some 2 from by kernel_rfl]; rfl) (H2).get.2) ?_
  exact ⟨by unfold Nz; rw [if_neg (by omega), decide_eq_false (by omega)], H2.right⟩
 ·(try simp only [aG] at h1)
  refine bD (aO rfl (bD (aO rfl (bD (dw rfl func75 (jY H1.f2) ?_)))))
  rintro _ w3 ⟨rfl, H3⟩
  refine bD (aU (D7 rfl rfl) (jr rfl rfl (aA (aj (aH rfl (fun h2 => ?_) (fun h2 => ?_))))))
  ·(try simp only [aG] at h2)
   refine ay (ah (aU (dV (zl := [.string .empty, .int .i64 0]) (pl := [(0, 1), (1, 1)]) [_, _] underlying152 zeroValue152 rfl (fun w => by kernel_rfl) rfl (.zero (zs := [.string .empty]) rfl (.zero (zs := [.int .i64 0]) rfl .nil)) rfl) (aI (bJ 0 (l' := [_, _]) (us := [_, _]) H3.f2 sizeOf152 rfl rfl rfl (aC (by first | rfl | assumption) (aC (by first | rfl | assumption) bn)) rfl rfl) ?_)))
   rintro _ w4 H4
   refine aV rfl (aA (aj (aJ (aK ?_))))
   refine oq (.inl rfl) (Ou results171 rfl rfl underlying152 rfl (by rw [show (prog.info? 152).map (·.size) = some 2 from by kernel_rfl]; rfl) (H4).get.2) ?_
   exact ⟨by unfold Nz; rw [if_neg (by omega), decide_eq_false (by omega)], H4.right⟩
  ·(try simp only [aG] at h2)
   refine aS (aj (ay ?_))
   obtain ⟨m, rfl⟩ := Int.eq_ofNat_of_zero_le (show 0 ≤ k by omega)
   obtain ⟨Jh, oD, qX⟩ := (H3).hist
   refine ah (aO rfl (bH rfl (aZ 0 underlying97 rfl sizeOf95 rfl (aZ 0 underlying95 rfl sizeOf51 rfl (cO underlying51 rfl (qX).get.2 rfl (aO rfl ?_))))))
   obtain ⟨ZX, ZY, Z4, Ub⟩ := Rd.rG ((qX.f2).aT) (by omega)
   cases Ub
   refine aU (eF underlying51 sizeOf152 rfl rfl (by omega)) (aU (gY (ys := [_, _]) ((qX.f2).aT) (by omega) underlying152 rfl sizeOf152 rfl (iQ sK (by omega) default) rfl) (aI (bJ 0 (l' := [_, _]) (us := [_, _]) qX.f3 sizeOf152 rfl rfl rfl (aC (by first | rfl | assumption) (aC (by first | rfl | assumption) bn)) rfl rfl) ?_))
   rintro _ w6 H6
   refine aV rfl (aA (aj (aJ ?_)))
   refine oq (.inl rfl) (Ou results171 rfl rfl underlying152 rfl (by rw [show (prog.info? 152).map (·.size) = some 2 from by kernel_rfl]; rfl) (H6).get.2) ?_
   have XV := H6.f3.f3
   have UR := aB.uj oD XV
   exact ⟨by unfold Nz; rw [if_pos (by omega), decide_eq_true (by omega)]; rfl, UR.f2.right⟩
theorem Bo {x0 x1 x2 x3 x4 x5 x6 x7 x8 x9 x10 x12 zX x14 x15 x16 x17 x18 x19 x20 x21 zy x23 x24 x25 zA x27 x28 x29 x30 x31 x32 BH : Value} (H : aB w0 w (dA e (.cells (x0 :: x1 :: x2 :: x3 :: x4 :: x5 :: x6 :: x7 :: x8 :: x9 :: x10 :: .pointer (some ⟨ph, 0, none⟩) :: x12 :: zX :: x14 :: x15 :: x16 :: x17 :: x18 :: x19 :: x20 :: x21 :: zy :: x23 :: x24 :: x25 :: zA :: x27 :: x28 :: x29 :: x30 :: x31 :: x32 :: BH :: []).toArray 66 (0, 0)) • dZ ph hl base most • F)) : fQ prog 124 #[.pointer (some ⟨e, 0, none⟩), .int .i64 k] w fun v w' =>
  v = .string (yS hl k) ∧ aB w0 w' (dA e (.cells (x0 :: x1 :: x2 :: x3 :: x4 :: x5 :: x6 :: x7 :: x8 :: x9 :: x10 :: .pointer (some ⟨ph, 0, none⟩) :: x12 :: zX :: x14 :: x15 :: x16 :: x17 :: x18 :: x19 :: x20 :: x21 :: zy :: x23 :: x24 :: x25 :: zA :: x27 :: x28 :: x29 :: x30 :: x31 :: x32 :: BH :: []).toArray 66 (0, 0)) • dZ ph hl base most • F) := by
 refine gX func124 ntmps124 ?_
 dsimp only [bg, Nat.reduceAdd]
 refine ay (ah (aV rfl (aA (aj (ay (ah (aO rfl (bH rfl (aZ 11 underlying66 rfl sizeOf24 rfl (cO underlying24 rfl (H).get.2 rfl (aO rfl (dw rfl func171 (Lr H.f2) ?_))))))))))))
 rintro _ w1 ⟨rfl, H1⟩
 refine aO rfl (nX rfl rfl (nX rfl rfl (iy (dI (l := [_, _]) H1 zeroValue152 rfl) ?_)))
 rintro _ w2 ⟨b2, rfl, H2⟩
 refine aI (bJ 0 (l' := [_, _]) (us := [_, _]) H2 sizeOf152 rfl rfl rfl (aC (by first | rfl | assumption) (aC (by first | rfl | assumption) bn)) rfl rfl) ?_
 rintro _ w3 H3
 refine aV rfl (aA (aj (ay (ah (aZ 0 underlying152 rfl sizeOf9 rfl (cO underlying9 rfl (H3).get.2 rfl (aV rfl (aA (aj (aJ (aP (.inl rfl) results124 rfl ?_)))))))))))
 exact ⟨rfl, H3.right.f2⟩
theorem Qw {t : ByteArray} (h : tx k = some t) : (mV tx k).getD (.string .empty) = .string t ∧ (mV tx k).isSome = true := by unfold mV; rw [h]; exact ⟨rfl, rfl⟩
theorem Dh : (mV tx k).isSome = (tx k).isSome := by unfold mV; cases tx k <;> rfl
theorem nU {x0 x1 x3 x4 x5 x6 x7 x8 x9 x10 x12 zX x14 x15 x16 x17 x18 x19 x20 x21 zy x23 x24 x25 zA x27 x28 x29 x30 x31 x32 BH : Value} (H : aB w0 w (dA e (.cells (x0 :: x1 :: .pointer (some ⟨pw, 0, none⟩) :: x3 :: x4 :: x5 :: x6 :: x7 :: x8 :: x9 :: x10 :: .pointer (some ⟨ph, 0, none⟩) :: x12 :: zX :: x14 :: x15 :: x16 :: x17 :: x18 :: x19 :: x20 :: x21 :: zy :: x23 :: x24 :: x25 :: zA :: x27 :: x28 :: x29 :: x30 :: x31 :: x32 :: BH :: []).toArray 66 (0, 0)) • dA pw (.cells #[v, .map (some pt)] 112 (0, 0)) • fF mQ pt (mV tx) • dZ ph hl base most • F)) :
  fQ prog 78 #[.pointer (some ⟨e, 0, none⟩), .int .i64 k] w fun v' w' =>
  v' = .string (iH hl tx k) ∧ aB w0 w' (dA e (.cells (x0 :: x1 :: .pointer (some ⟨pw, 0, none⟩) :: x3 :: x4 :: x5 :: x6 :: x7 :: x8 :: x9 :: x10 :: .pointer (some ⟨ph, 0, none⟩) :: x12 :: zX :: x14 :: x15 :: x16 :: x17 :: x18 :: x19 :: x20 :: x21 :: zy :: x23 :: x24 :: x25 :: zA :: x27 :: x28 :: x29 :: x30 :: x31 :: x32 :: BH :: []).toArray 66 (0, 0)) • dA pw (.cells #[v, .map (some pt)] 112 (0, 0)) • fF mQ pt (mV tx) • dZ ph hl base most • F) := by
 refine gX func78 ntmps78 ?_
 dsimp only [bg, Nat.reduceAdd]
 refine ay (ah (aV rfl (aA (aj (ay (ay (ah (aO rfl (bH rfl (aZ 0 underlying66 rfl sizeOf62 rfl (aZ 2 underlying62 rfl sizeOf59 rfl (cO underlying59 rfl (H).get.2 rfl (bH rfl (aZ 1 underlying112 rfl sizeOf110 rfl (cO underlying110 rfl (H.f2).get.2 rfl (aO rfl (aU (KF (H.f3) underlying110 underlying3 zeroValue9 rfl rfl) (aO rfl (nX rfl rfl (nX rfl rfl (aV rfl (aV rfl (aA (aj (ay (ah (aO rfl (aA (aj (aH rfl (fun h1 => ?_) (fun h1 => ?_)))))))))))))))))))))))))))))))
 ·(try simp only [aG] at h1)
  obtain ⟨tt, htt⟩ := Option.isSome_iff_exists.1 (Dh (tx := tx) ▸ h1)
  refine ay (ah (aO rfl (aV rfl (aA (aj (aJ (aK (aP (.inl rfl) results78 rfl ?_))))))))
  exact ⟨by unfold iH; rw [htt]; show (mV tx k).getD (.string .empty) = _; rw [(Qw htt).1]; rfl, H.f4.f4.f4.f4⟩
 ·(try simp only [aG] at h1)
  have htt : tx k = none := by have := Dh (tx := tx) (k := k) ▸ h1; simpa using this
  refine aS (aj (ay (ah (aO rfl (aO rfl (dw rfl func124 (Bo H.f4.f2) ?_))))))
  rintro _ w1 ⟨rfl, H1⟩
  refine aV rfl (aA (aj (aJ (aP (.inl rfl) results78 rfl ?_))))
  exact ⟨by unfold iH; rw [htt]; rfl, H1.f2.f4.f4.f4⟩
end
end Go.Proofs.YtgmpclifphbjkaaGreatDoor
end
section
namespace Go.Proofs.YtgmpclifphbjkaaGreatDoor
open Go.RowKit
open _root_.Go.Proofs.Tryz
theorem Ls {D : List Int} {P : Int → Nat} {k : Int} (h : (EZ D P k).isSome = true) : k ∈ D := by
  unfold EZ at h
  split at h
  · assumption
  · cases h
theorem Jp {D : List Int} {P : Int → Nat} {k : Int} (h : (EZ D P k).isSome = false) : k ∉ D := by
  unfold EZ at h
  split at h
  · cases h
  · assumption
def ni (x : Int × ByteArray) : List Value := [.int .i64 x.1, .string x.2]
theorem Lu {hl : List mM} {tx : Int → Option ByteArray} {place : Int} {i : Nat} (h : yT hl tx place i = true) : mP hl tx place (i + 1) = mP hl tx place i ++ [((i : Int), iH hl tx i)] := by
  unfold mP; rw [List.range_succ, List.filter_append, List.map_append]; simp [List.filter, h]
theorem Fp {hl : List mM} {tx : Int → Option ByteArray} {place : Int} {i : Nat} (h : yT hl tx place i = false) : mP hl tx place (i + 1) = mP hl tx place i := by
  unfold mP; rw [List.range_succ, List.filter_append, List.map_append]; simp [List.filter, h]
theorem rC (hl : List mM) (tx : Int → Option ByteArray) (place : Int) (i : Nat) : (mP hl tx place i).length ≤ i := by
  unfold mP; rw [List.length_map]
  exact Nat.le_trans (List.length_filter_le _ _) (by simp)
def pO (E : List (List Int)) (a : Nat) : List (List Int) := E.drop a ++ E.take a
def Uc (n a i : Nat) : Nat := if i = 0 then a else (a + (i - 1)) % n
theorem Qx {n a i : Nat} : vJ n (Uc n a i) (min (i : Int) 1) = Uc n a (i + 1) := by
  cases i with
  | zero =>
    show (((a : Int) + min ((0 : Nat) : Int) 1) % (n : Int)).toNat = (a + (0 + 1 - 1)) % n
    rw [show min ((0 : Nat) : Int) 1 = 0 by omega, Int.add_zero, show ((a : Int) % (n : Int)) = ((a % n : Nat) : Int) from rfl, Int.toNat_natCast]
    rfl
  | succ j =>
    show (((((a + (j + 1 - 1)) % n : Nat) : Int) + min ((j + 1 : Nat) : Int) 1) % (n : Int)).toNat = (a + (j + 1 + 1 - 1)) % n
    rw [show min ((j + 1 : Nat) : Int) 1 = ((1 : Nat) : Int) by omega, show ((((a + (j + 1 - 1)) % n : Nat) : Int) + ((1 : Nat) : Int)) % (n : Int) = ((((a + (j + 1 - 1)) % n + 1) % n : Nat) : Int) from rfl, Int.toNat_natCast, Nat.mod_add_mod]
    congr 1
theorem Qy {E : List (List Int)} {a i : Nat} (h : i < E.length) (ha : a < E.length) : (pO E a).getD i [] = E.getD (Uc E.length a (i + 1)) [] := by
  unfold pO Uc
  rw [if_neg (by omega), Nat.add_sub_cancel, List.getD_eq_getElem?_getD, List.getD_eq_getElem?_getD]
  by_cases hi : i < E.length - a
  · rw [List.getElem?_append_left (by simpa using hi), List.getElem?_drop, Nat.mod_eq_of_lt (by omega)]
  · rw [List.getElem?_append_right (by simpa using hi), List.length_drop, List.getElem?_take, if_pos (by omega)]
    have : (a + i) % E.length = i - (E.length - a) := by
      rw [show a + i = (i - (E.length - a)) + E.length by omega, Nat.add_mod_right, Nat.mod_eq_of_lt (by omega)]
    rw [this]
theorem Fq {α : Type _} {l : List α} {k : Nat} {d : α} (h : k < l.length) : l.take (k + 1) = l.take k ++ [l.getD k d] := by rw [List.take_succ_eq_append_getElem h, List.getD_eq_getElem?_getD, List.getElem?_eq_getElem h]; rfl
theorem Ih (E : List (List Int)) (a : Nat) : (pO E a).length = E.length := by unfold pO; simp; omega
section
variable {w0 w : World} {F : HP} {e p ph pw pt pr pm pb : Nat} {s : aY} {k x place : Int} {hl : List mM} {base most cls : Int} {tx : Int → Option ByteArray} {v pv : Value} {U : Int → List (List eH)} {put : List eH} {xs : List Value} {inn run whole : Bool} {E : List (List Int)} {a : Nat} {L : List Int} {X3 mk : Int}
theorem yD {x0 x1 x2 x3 x4 x5 x6 x7 x8 x9 x10 x12 zX x14 x15 x16 x17 x18 x19 x20 x21 zy x23 x24 x25 zA x27 x28 x29 x30 x31 x32 BH : Value} (H : aB w0 w (dA e (.cells (x0 :: x1 :: x2 :: x3 :: x4 :: x5 :: x6 :: x7 :: x8 :: x9 :: x10 :: .pointer (some ⟨ph, 0, none⟩) :: x12 :: zX :: x14 :: x15 :: x16 :: x17 :: x18 :: x19 :: x20 :: x21 :: zy :: x23 :: x24 :: x25 :: zA :: x27 :: x28 :: x29 :: x30 :: x31 :: x32 :: BH :: []).toArray 66 (0, 0)) • F)) : fQ prog 43 #[.pointer (some ⟨e, 0, none⟩)] w fun v w' => v = .bool false ∧ w = w' := by
 refine gX func43 ntmps43 ?_
 dsimp only [bg, Nat.reduceAdd]
 refine ay (ah (aV rfl (aA (aj (ay (ah (aO rfl (aU (jc underlying28 rfl rfl) (jo rfl (fun h1 => ?_) (fun h1 => ?_))))))))))
 ·(try simp only [aG] at h1)
  try (exfalso; first | contradiction | omega)
  all_goals
   refine bI (bI (bI (bI (bI (jO rfl rfl (aV rfl (aA (aj (aJ (aP (.inl rfl) results43 rfl ?_))))))))))
   exact ⟨rfl, rfl⟩
 ·(try simp only [aG] at h1)
  try (exfalso; first | contradiction | omega)
  all_goals
   refine bD (aO rfl (bD (bH rfl (bD (aZ 11 underlying66 rfl sizeOf24 rfl (bD (cO underlying24 rfl (H).get.2 rfl (bD (aU (jc underlying24 rfl rfl) (jr rfl rfl (aV rfl (aA (aj (aJ (aP (.inl rfl) results43 rfl ?_)))))))))))))))
   exact ⟨rfl, rfl⟩
theorem nV {x0 x1 x4 x5 x6 x7 x8 x9 x11 x12 zX x14 x15 x17 x18 x19 x20 x21 zy x23 x24 x25 zA x27 x29 x30 x31 : Value} (H : aB w0 w (dA e (.cells (x0 :: x1 :: .pointer (some ⟨pw, 0, none⟩) :: .map (some pm) :: x4 :: x5 :: x6 :: x7 :: x8 :: x9 :: .bool run :: x11 :: x12 :: zX :: x14 :: x15 :: .bool inn :: x17 :: x18 :: x19 :: x20 :: x21 :: zy :: x23 :: x24 :: x25 :: zA :: x27 :: .int .i64 cls :: x29 :: x30 :: x31 :: .bool whole :: pv :: []).toArray 66 (0, 0)) • dA pw (.cells #[.int .i64 k, .map (some pt)] 112 (0, 0)) • rM pm U • Row 120 3 pv put.length xs • F)) (hU : (U k).length ≤ 16384) :
    fQ prog 55 #[.pointer (some ⟨e, 0, none⟩)] w fun v' w' => v' = .int .i64 (mF (U k) inn put (cls == 3 && whole) run) ∧
      aB w0 w' (dA e (.cells (x0 :: x1 :: .pointer (some ⟨pw, 0, none⟩) :: .map (some pm) :: x4 :: x5 :: x6 :: x7 :: x8 :: x9 :: .bool run :: x11 :: x12 :: zX :: x14 :: x15 :: .bool inn :: x17 :: x18 :: x19 :: x20 :: x21 :: zy :: x23 :: x24 :: x25 :: zA :: x27 :: .int .i64 cls :: x29 :: x30 :: x31 :: .bool whole :: pv :: []).toArray 66 (0, 0)) • dA pw (.cells #[.int .i64 k, .map (some pt)] 112 (0, 0)) • rM pm U • Row 120 3 pv put.length xs • F) := by
  refine gX func55 ntmps55 ?_
  dsimp only [bg, Nat.reduceAdd]
  refine ay (ah (aV rfl (aA (aj (ay (ah (aV rfl (aA (aj ?_)))))))))
  refine Am [(0, _)] (fun (_ : Unit) => [(3, .int .i64 ((U k).length : Int))]) (fun (_ : Unit) W => aB w0 W (dA e (.cells (x0 :: x1 :: .pointer (some ⟨pw, 0, none⟩) :: .map (some pm) :: x4 :: x5 :: x6 :: x7 :: x8 :: x9 :: .bool run :: x11 :: x12 :: zX :: x14 :: x15 :: .bool inn :: x17 :: x18 :: x19 :: x20 :: x21 :: zy :: x23 :: x24 :: x25 :: zA :: x27 :: .int .i64 cls :: x29 :: x30 :: x31 :: .bool whole :: pv :: []).toArray 66 (0, 0)) • dA pw (.cells #[.int .i64 k, .map (some pt)] 112 (0, 0)) • rM pm U • Row 120 3 pv put.length xs • F)) (Sub.cons rfl (Sub.nil _)) ?_ ?_
  · rintro _ w1 HJ
    dsimp only [List.cons_append, List.nil_append]
    refine ay (ay (ah (aO rfl (bH rfl (aZ 16 underlying66 rfl sizeOf4 rfl (cO underlying4 rfl (HJ).get.2 rfl (jo rfl (fun h1 => ?_) (fun h1 => ?_))))))))
    · (try simp only [aG] at h1)
      have hin := h1
      refine bD (aO rfl (bD (bH rfl (bD (aZ 33 underlying66 rfl sizeOf64 rfl (bD (cO underlying64 rfl (HJ).get.2 rfl (bD (aU (fB ((HJ.f4).aT) underlying64 rfl) (bD (aU (dQ rfl rfl) (jO rfl rfl (jo rfl (fun h2 => ?_) (fun h2 => ?_))))))))))))))
      · (try simp only [aG] at h2)
        have hno : put.isEmpty = false := by rw [lU]; exact decide_eq_false (by omega)
        refine bD (aO rfl (bD (bH rfl (bD (aZ 28 underlying66 rfl sizeOf3 rfl (bD (cO underlying3 rfl (HJ).get.2 rfl (bD (aU (dW rfl rfl) (bD (jo rfl (fun h3 => ?_) (fun h3 => ?_))))))))))))
        · (try simp only [aG] at h3)
          have hcl := h3
          refine bD (aO rfl (bD (bH rfl (bD (aZ 32 underlying66 rfl sizeOf4 rfl (bD (cO underlying4 rfl (HJ).get.2 rfl (bD (jO rfl rfl (bD (jo rfl (fun h4 => ?_) (fun h4 => ?_))))))))))))
          · (try simp only [aG] at h4)
            have hwh := h4
            refine bD (aO rfl (bD (bH rfl (bD (aZ 0 underlying66 rfl sizeOf62 rfl (bD (aZ 10 underlying62 rfl sizeOf4 rfl (bD (cO underlying4 rfl (HJ).get.2 rfl (bD (jO rfl rfl (bD (aU (kM rfl) (jO rfl rfl (aA (aj (aH rfl (fun h5 => ?_) (fun h5 => ?_))))))))))))))))))
            · (try simp only [aG] at h5)
              have hrn := h5
              refine ah (aO rfl (aU (eP rfl rfl (by omega)) (aV rfl (aA (aj (ay (ah (aO rfl (aV rfl (aA (aj (aJ (aP (.inl rfl) results55 rfl ?_)))))))))))))
              refine ⟨?_, HJ.f4.f4.f4.f4⟩
              congr 1
              unfold mF
              first
                | exact absurd hrn (by decide)
                | (simp [hin]; done)
                | (simp [hin, hno]; done)
                | (simp [hin, hno, hcl]; done)
                | (simp [hin, hno, hcl, hwh]; done)
                | (simp [hin, hno, hcl, hwh, hrn]; done)
            · (try simp only [aG] at h5)
              have hrn := h5
              refine aS (aj (ay (ah (aO rfl (aV rfl (aA (aj (aJ (aP (.inl rfl) results55 rfl ?_)))))))))
              refine ⟨?_, HJ.f4.f4.f4.f4⟩
              congr 1
              unfold mF
              first
                | exact absurd hrn (by decide)
                | (simp [hin]; done)
                | (simp [hin, hno]; done)
                | (simp [hin, hno, hcl]; done)
                | (simp [hin, hno, hcl, hwh]; done)
                | (simp [hin, hno, hcl, hwh, hrn]; done)
          · (try simp only [aG] at h4)
            have hwh := h4
            refine bI (bI (bI (bI (bI (bD (jr rfl rfl (bD (aU (kM rfl) (jO rfl rfl (aA (aj (aH rfl (fun h6 => ?_) (fun h6 => ?_)))))))))))))
            · (try simp only [aG] at h6)
              have hrn := h6
              refine ah (aO rfl (aU (eP rfl rfl (by omega)) (aV rfl (aA (aj (ay (ah (aO rfl (aV rfl (aA (aj (aJ (aP (.inl rfl) results55 rfl ?_)))))))))))))
              refine ⟨?_, HJ.f4.f4.f4.f4⟩
              congr 1
              unfold mF
              first
                | exact absurd hrn (by decide)
                | (simp [hin]; done)
                | (simp [hin, hno]; done)
                | (simp [hin, hno, hcl]; done)
                | (simp [hin, hno, hcl, hwh]; done)
                | (simp [hin, hno, hcl, hwh, hrn]; done)
            · (try simp only [aG] at h6)
              have hrn := h6
              refine aS (aj (ay (ah (aO rfl (aV rfl (aA (aj (aJ (aP (.inl rfl) results55 rfl ?_)))))))))
              refine ⟨?_, HJ.f4.f4.f4.f4⟩
              congr 1
              unfold mF
              first
                | exact absurd hrn (by decide)
                | (simp [hin]; done)
                | (simp [hin, hno]; done)
                | (simp [hin, hno, hcl]; done)
                | (simp [hin, hno, hcl, hwh]; done)
                | (simp [hin, hno, hcl, hwh, hrn]; done)
        · (try simp only [aG] at h3)
          have hcl := h3
          refine bI (bI (bI (bI (bD (jr rfl rfl (bD (aO rfl (bI (bI (bI (bI (bI (bD (jr rfl rfl (bD (aU (kM rfl) (jO rfl rfl (aA (aj (aH rfl (fun h7 => ?_) (fun h7 => ?_)))))))))))))))))))))
          · (try simp only [aG] at h7)
            have hrn := h7
            refine ah (aO rfl (aU (eP rfl rfl (by omega)) (aV rfl (aA (aj (ay (ah (aO rfl (aV rfl (aA (aj (aJ (aP (.inl rfl) results55 rfl ?_)))))))))))))
            refine ⟨?_, HJ.f4.f4.f4.f4⟩
            congr 1
            unfold mF
            first
              | exact absurd hrn (by decide)
              | (simp [hin]; done)
              | (simp [hin, hno]; done)
              | (simp [hin, hno, hcl]; done)
              | (simp [hin, hno, hcl, hwh]; done)
              | (simp [hin, hno, hcl, hwh, hrn]; done)
          · (try simp only [aG] at h7)
            have hrn := h7
            refine aS (aj (ay (ah (aO rfl (aV rfl (aA (aj (aJ (aP (.inl rfl) results55 rfl ?_)))))))))
            refine ⟨?_, HJ.f4.f4.f4.f4⟩
            congr 1
            unfold mF
            first
              | exact absurd hrn (by decide)
              | (simp [hin]; done)
              | (simp [hin, hno]; done)
              | (simp [hin, hno, hcl]; done)
              | (simp [hin, hno, hcl, hwh]; done)
              | (simp [hin, hno, hcl, hwh, hrn]; done)
      · (try simp only [aG] at h2)
        have hno : put.isEmpty = true := by rw [lU]; exact decide_eq_true (by omega)
        refine bI (bI (bI (bI (bI (bI (oJ (oJ (oJ (oJ (bI (bI (oJ (oJ (oJ (oJ (oJ (bI (bI (jr rfl rfl (aA (aj (qN (aS (aj (ay (ah (aO rfl (aV rfl (aA (aj (aJ (aP (.inl rfl) results55 rfl ?_))))))))))))))))))))))))))))))))
        refine ⟨?_, HJ.f4.f4.f4.f4⟩
        congr 1
        unfold mF
        first
          | exact absurd hrn (by decide)
          | (simp [hin]; done)
          | (simp [hin, hno]; done)
          | (simp [hin, hno, hcl]; done)
          | (simp [hin, hno, hcl, hwh]; done)
          | (simp [hin, hno, hcl, hwh, hrn]; done)
    · (try simp only [aG] at h1)
      have hin := h1
      refine bI (bI (bI (bI (bI (bI (jr rfl rfl (aO rfl (bI (bI (bI (bI (bI (bI (oJ (oJ (oJ (oJ (bI (bI (oJ (oJ (oJ (oJ (oJ (bI (bI (jr rfl rfl (aA (aj (qN (aS (aj (ay (ah (aO rfl (aV rfl (aA (aj (aJ ?_)))))))))))))))))))))))))))))))))))))))
      refine aP (.inl rfl) results55 rfl ?_
      refine ⟨?_, HJ.f4.f4.f4.f4⟩
      congr 1
      unfold mF
      first
        | exact absurd hrn (by decide)
        | (simp [hin]; done)
        | (simp [hin, hno]; done)
        | (simp [hin, hno, hcl]; done)
        | (simp [hin, hno, hcl, hwh]; done)
        | (simp [hin, hno, hcl, hwh, hrn]; done)
  · skip
    refine ay ?_
    obtain ⟨D, P, hD1, hD2, HU⟩ := (H.f3).Tc
    have Qz := HU.drew
    have lW := aB.kp (Qz.f5.f5.f5.f5.f5)
    refine uH [4, 9, 12, 13] lW rfl (fU 0 rfl lW rfl (iT 1 rfl lW rfl (dP 2 rfl lW 0 underlying66 rfl sizeOf62 rfl (dP 3 rfl lW 3 underlying62 rfl sizeOf60 rfl (gQ 4 rfl lW (fun W hW => iI underlying60 rfl ((Kp.h hW).f3).get.2 rfl) (fU 5 rfl lW rfl (iT 6 rfl lW rfl (dP 7 rfl lW 0 underlying66 rfl sizeOf62 rfl (dP 8 rfl lW 2 underlying62 rfl sizeOf59 rfl (gQ 9 rfl lW (fun W hW => iI underlying59 rfl ((Kp.h hW).f3).get.2 rfl) (iT 10 rfl lW rfl (dP 11 rfl lW 0 underlying112 rfl sizeOf3 rfl (gQ 12 rfl lW (fun W hW => iI underlying3 rfl ((Kp.h hW).f4).get.2 rfl) (gQ 13 rfl lW (fun W hW => QZ (KE ((Kp.h hW)) underlying60 underlying3 zeroValue116 rfl rfl) (OU D P k)) (iJ 14 rfl lW (fun _ => fO rfl) (mg (aj (ay (ah (aO rfl (aU (D8 underlying116 rfl rfl) (aA (aj (aH rfl (fun h8 => ?_) (fun h8 => ?_)))))))))))))))))))))))))
    · (try simp only [aG] at h8)
      have hmem := Ls h8
      rw [KQ hmem]
      have HF := Qz.f2
      rw [oN hmem] at HF
      have HF2 := HF.flat
      refine ah (aO rfl (dw rfl func60 (I8 HF2) ?_))
      rintro _ w2 ⟨rfl, H2⟩
      have Ho3 := H2.f2.f2
      have Hc4 := aB.of_eq Ho3 (by rw [← bV, ← oN hmem])
      have Zb := Hc4.f2
      have Zc := aB.yV hD1 hD2 Zb
      refine aV rfl (aA ?_)
      refine jW (()) ?_ ?_ ?_
      · exact (Sub.zh rfl (by first | (rw [hD2 _ hnm]; rfl) | (simp; done)) (Sub.nil _))
      · exact (Sub.cons rfl (Sub.nil _))
      · (try dsimp only)
        first | done | exact Zc.f4.f2.f4.f4
    · (try simp only [aG] at h8)
      have hnm := Jp h8
      have Xv := Qz.f2.f2
      have Xw := aB.yV hD1 hD2 Xv
      refine aS ?_
      refine jW (()) ?_ ?_ ?_
      · exact (Sub.zh rfl (by first | (rw [hD2 _ hnm]; rfl) | (simp; done)) (Sub.nil _))
      · exact (Sub.cons rfl (Sub.nil _))
      · (try dsimp only)
        first | done | exact Xw.f4.f2.f4.f4
theorem wV {x0 x2 x3 x4 x5 x6 x7 x8 x9 x10 x12 zX x14 x15 x16 x17 x18 x19 x20 x21 zy x23 x24 x25 zA x27 x28 x29 x30 x31 x32 BH : Value} (H : aB w0 w (dA e (.cells (x0 :: .pointer (some ⟨pr, 0, none⟩) :: x2 :: x3 :: x4 :: x5 :: x6 :: x7 :: x8 :: x9 :: x10 :: .pointer (some ⟨ph, 0, none⟩) :: x12 :: zX :: x14 :: x15 :: x16 :: x17 :: x18 :: x19 :: x20 :: x21 :: zy :: x23 :: x24 :: x25 :: zA :: x27 :: x28 :: x29 :: x30 :: x31 :: x32 :: BH :: []).toArray 66 (0, 0)) • bY pr E a • F)) : fQ prog 32 #[.pointer (some ⟨e, 0, none⟩)] w fun v' w' =>
  ∃ us, aB w0 w' (Row 22 1 v' E.length us • xK 21 .i32 us (pO E a) • dA e (.cells (x0 :: .pointer (some ⟨pr, 0, none⟩) :: x2 :: x3 :: x4 :: x5 :: x6 :: x7 :: x8 :: x9 :: x10 :: .pointer (some ⟨ph, 0, none⟩) :: x12 :: zX :: x14 :: x15 :: x16 :: x17 :: x18 :: x19 :: x20 :: x21 :: zy :: x23 :: x24 :: x25 :: zA :: x27 :: x28 :: x29 :: x30 :: x31 :: x32 :: BH :: []).toArray 66 (0, 0)) • bY pr E a • F) := by
 obtain ⟨hE1, hE2, hE3⟩ := zS H.swap
 refine gX func32 ntmps32 ?_
 dsimp only [bg, Nat.reduceAdd]
 refine ay (ah (aV rfl (aA (aj (ay (ay (ah (aO rfl (dw rfl func43 (yD H) ?_)))))))))
 rintro _ _ ⟨rfl, rfl⟩
 refine aA (aj (qN (aS (aj (ay (ah (aV rfl (aA (aj (ay (ah (aO rfl (bH rfl (aZ 0 underlying66 rfl sizeOf62 rfl (aZ 1 underlying62 rfl sizeOf58 rfl (cO underlying58 rfl (H).get.2 rfl (dw rfl func72 (tC H.f2) ?_)))))))))))))))))
 rintro _ w2 ⟨pc2, rfl, H2⟩
 refine aV rfl (aA (aj (ay (ay (ah (aO rfl (dw rfl func80 (IY H2) ?_)))))))
 rintro _ _ ⟨rfl, rfl⟩
 refine aO rfl (aA (aj (bf ?_)))
 obtain ⟨R4, ZI, HR4⟩ := aB.YI (H2)
 refine fM [(4, _), (17, _)] (fun (⟨i, u⟩ : Nat × Value) => [(3, u), (18, .int .i64 (i : Int))]) (fun (⟨i, u⟩ : Nat × Value) W => i ≤ E.length ∧ ∃ us, aB w0 W (Row 22 1 u i us • xK 21 .i32 us ((pO E a).take i) • bY pc2 E (Uc E.length a i) • R4)) (fun (⟨i, u⟩ : Nat × Value) => E.length - i) ((0, .slice none 0 0)) (Sub.cons rfl (Sub.cons rfl (Sub.nil _))) (Sub.cons rfl (Sub.cons rfl (Sub.nil _))) ⟨by omega, [], HR4.Ua.fZ none⟩ ?_
 rintro ⟨i, u⟩ w5 ⟨hi, us, HL⟩
 dsimp only [List.cons_append, List.nil_append]
 refine ay (ah (aU (dL rfl rfl) (aA (aj (ay (aH rfl (fun h1 => ?_) (fun h1 => ?_)))))))
 ·(try simp only [aG] at h1)
  refine aS (aj (ay (bf (ay (ah (aO rfl (aV rfl (aA (aj (ay (ah (aO rfl (aO rfl (aU (Oq rfl rfl) (dw rfl func73 (xA HL.f3) ?_)))))))))))))))
  rintro _ w6 ⟨u6, rfl, H6⟩
  have hne : ¬ E.length = 0 := by omega
  have HX := H6
  simp only [if_neg hne] at HX
  refine aO rfl (nX rfl rfl (nX rfl rfl (aV rfl (aV rfl (aA (aj (ah (aO rfl (aO rfl (iy (lQ (vs := [_]) HX underlying43 sizeOf22 zeroValue22 rfl rfl rfl (by decide) (aC (by first | rfl | exact Rd.one ((HX).aT)) bn)) ?_))))))))))
  rintro l7 w7 H7
  refine iy (fK H7.f4 underlying43 (show (prog.info? 22).map (fun i => (i.zero, i.size, i.bytes)) = some (some (.slice none 0 0), 1, 24) by kernel_rfl) rfl rfl rfl ((H7).aT) (aC (by first | rfl | exact Rd.one ((H7.f2).aT)) bn) (by omega) (by omega)) ?_
  rintro l8 w8 H8
  have Hd9 := H8.f2.right
  refine aV rfl (aA (aQ (aj (ah (aU (eP rfl rfl (by omega)) (aO rfl (aA ?_)))))))
  have HS := (Hd9.f3.f2.f3.f4).yZ.f2
  refine dK ((i + 1, l8)) ?_ ?_ ?_ ?_
  ·exact (Sub.cons rfl (Sub.cons rfl (Sub.nil _)))
  ·exact (Sub.cons rfl (Sub.cons rfl (Sub.nil _)))
  ·(try dsimp only)
   first | done | exact ⟨by omega, _, by rw [Fq (d := []) (by rw [Ih]; omega), Qy (by omega) (by omega), ← Qx]; exact HS⟩
  ·(try dsimp only); omega
 ·(try simp only [aG] at h1)
  refine fG (aX ?_)
  obtain rfl : i = E.length := by omega
  have HK := HL
  rw [List.take_of_length_le (by rw [Ih]; exact Nat.le_refl _)] at HK
  subst ZI
  refine aX (bM (aj (ay (ah (aO rfl (aV rfl (aA (aj (aJ (aP (.inl rfl) results32 rfl ?_))))))))))
  exact ⟨_, HK.f3.right.f3.f4.f4.f4⟩
end
end Go.Proofs.YtgmpclifphbjkaaGreatDoor
end
