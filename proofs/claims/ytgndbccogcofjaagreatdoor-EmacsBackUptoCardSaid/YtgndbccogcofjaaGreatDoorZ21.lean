import Derived.Test.YtgndbccogcofjaaGreatDoorZ2
import Derived.Test.YtgndbccogcofjaaGreatDoorZ20
import Derived.Test.YtgndbccogcofjaaGreatDoorZ5
import Derived.Test.YtgndbccogcofjaaGreatDoorZ10
import Derived.Test.YtgndbccogcofjaaGreatDoorCards
import Derived.Test.YtgndbccogcofjaaGreatDoorZ6
import Derived.SevenTiedAt
set_option linter.unusedSimpArgs false
set_option linter.unusedVariables false
/- EmacsBack in its second form, as the card states it, for whatever the program's variables hold as its text lays them. No condition beside the form's own bound.
Texts of mine, joined, their names in short: LawEmBack HasEmBack. -/
section
namespace Go.Proofs.YtgndbccogcofjaaGreatDoor
open Go.RowKit
open _root_.Go.Proofs.Tryz
section
variable {P : Program} {L : List (Nat × Value)} {w : World} {x y : Operand} {ty t t' : TypeId} {m n : Int}
theorem WY (hx : ev L x = some (.int .u8 m)) (hy : ev L y = some (.int .u8 n)) (hb : 0 ≤ m + n ∧ m + n ≤ 255) : Val P L (.binOp .add t x y t') ty w (.int .u8 (m + n)) w := by
  have h := GK (P := P) (L := L) (w := w) (ty := ty) (t := t) (t' := t') hx hy
  rwa [Vy (by omega)] at h
end
theorem KE {bs : List Int} {k : Nat} (h : k < bs.length) : (bs.take (k + 1)).map xZ = (bs.take k).map xZ ++ [xZ (bs.getD k 0)] := by
  rw [List.take_add_one, List.getElem?_eq_getElem h, List.getD_eq_getElem?_getD, List.getElem?_eq_getElem h, List.map_append]; rfl
section
variable {w0 w : World} {F : HP} {bv lv : Value} {bs A : List Int} {pt : Int} {s : bC}
theorem EN (H : aB w0 w F) (q1 : iI w0 F .u8 bv bs) (hb : ∀ k, k < bs.length → 0 ≤ bs.getD k 0 ∧ bs.getD k 0 < 256) (hL : bs.length ≤ 17179869184) :
  fG prog 19 #[bv] w fun v w' => aB w0 w' (gW 21 .i32 v (bs.map xZ) • F) := by
 refine gG func19 ntmps19 ?_
 dsimp only [bf, Nat.reduceAdd]
 refine ay (ah (aV rfl (aA (aj (ay (ah (aV rfl (aA (aj (ay (ay (ah (aN rfl (aU (jC (q1 _ (H)) underlying61 rfl) (aN rfl (aA (aj (bF ?_))))))))))))))))))
 refine gQ [(6, _), (7, _)] (fun (⟨u, k⟩ : Value × Nat) => [(3, u), (8, .int .i64 (k : Int))]) (fun (⟨u, k⟩ : Value × Nat) W => k ≤ bs.length ∧ aB w0 W (gW 21 .i32 u ((bs.take k).map xZ) • F)) (fun (⟨u, k⟩ : Value × Nat) => bs.length - k) ((.slice none 0 0, 0)) (Sub.cons rfl (Sub.cons rfl (Sub.nil _))) (Sub.cons rfl (Sub.cons rfl (Sub.nil _))) ⟨by omega, (H).jf none⟩ ?_
 rintro ⟨u, k⟩ w1 ⟨hk, HL⟩
 dsimp only [List.cons_append, List.nil_append]
 refine ay (ah (aU (eF rfl rfl) (aA (aj (ay (aP rfl (fun h1 => ?_) (fun h1 => ?_)))))))
 ·(try simp only [aF] at h1)
  have hkl := h1
  have hkn : k < bs.length := by omega
  have hbk := hb k hkn
  have hcl : ((bs.take k).map xZ).length = k := by simp; omega
  refine aO (aj (ay (bF (ay (ah ?_)))))
  obtain ⟨bbv, obv, cbv, ebv⟩ := iw.zn (q1 _ (HL.right)) (by omega)
  cases ebv
  refine aU (gX underlying61 sizeOf5 rfl rfl (by omega)) ?_
  refine aU (kU (dB underlying5 rfl) rfl (by first | exact iw.GV (q1 _ (HL.right)) (by omega) | exact iw.UD (q1 _ (HL.right)) (by omega) | exact iw.SK (q1 _ (HL.right)) (by omega))) ?_
  refine aV rfl (aA (aj (ay (ah (aN rfl ?_)))))
  refine aU (FM rfl rfl (by omega) (by  omega)) ?_
  refine aU (fE rfl rfl) (aA (aj (aP rfl (fun h2 => ?_) (fun h2 => ?_))))
  ·(try simp only [aF] at h2)
   have RU := h2
   refine ah (aN rfl (iy (bT (k := .i32) (l := [32]) HL underlying22 sizeOf21 zeroValue21 rfl rfl rfl (by decide)) ?_))
   rintro l2 w2 H2
   refine iy (kR H2.f2 ((H2).aS) underlying22 (show (prog.info? 21).map (fun i => (i.zero, i.size, i.bytes)) = some (some (.int .i32 0), 1, 4) by kernel_rfl) rfl rfl (by first | omega | (simp only [List.length_append, List.length_nil, List.length_cons]; omega) | (simp; omega)) (by first | omega | (simp only [List.length_append, List.length_nil, List.length_cons]; omega) | (simp; omega))) ?_
   rintro l3 w3 H3
   try simp only [List.nil_append] at H3
   refine aV rfl (aA (aQ (aj (ah (aU (fC rfl rfl (by omega)) (aN rfl (aA ?_)))))))
   refine eG ((l3, k + 1)) ?_ ?_ ?_ ?_
   ·exact (Sub.cons rfl (Sub.cons rfl (Sub.nil _)))
   ·exact (Sub.cons rfl (Sub.cons rfl (Sub.nil _)))
   ·(try dsimp only)
    first | done | exact ⟨by omega, by have HX := H3.f2.right; rw [KE hkn]; unfold xZ at HX ⊢; first | (rw [if_pos RU]; exact HX) | (rw [if_neg RU]; exact HX)⟩
   ·(try dsimp only); omega
  ·(try simp only [aF] at h2)
   have RU := h2
   refine ah (aN rfl (aN rfl ?_))
   refine aU (FM rfl rfl (by omega) (by  omega)) ?_
   refine aU (WY rfl rfl (by omega)) ?_
   refine aU (KN rfl (by rw [underlying5]; rfl) underlying21 (SS (by omega))) ?_
   refine iy (bT (k := .i32) (l := [_]) HL underlying22 sizeOf21 zeroValue21 rfl rfl rfl (by decide)) ?_
   rintro l4 w4 H4
   refine iy (kR H4.f2 ((H4).aS) underlying22 (show (prog.info? 21).map (fun i => (i.zero, i.size, i.bytes)) = some (some (.int .i32 0), 1, 4) by kernel_rfl) rfl rfl (by first | omega | (simp only [List.length_append, List.length_nil, List.length_cons]; omega) | (simp; omega)) (by first | omega | (simp only [List.length_append, List.length_nil, List.length_cons]; omega) | (simp; omega))) ?_
   rintro l5 w5 H5
   try simp only [List.nil_append] at H5
   refine aV rfl (aA (aQ (aj (ah (aU (fC rfl rfl (by omega)) (aN rfl (aA ?_)))))))
   refine eG ((l5, k + 1)) ?_ ?_ ?_ ?_
   ·exact (Sub.cons rfl (Sub.cons rfl (Sub.nil _)))
   ·exact (Sub.cons rfl (Sub.cons rfl (Sub.nil _)))
   ·(try dsimp only)
    first | done | exact ⟨by omega, by have HX := H5.f2.right; rw [KE hkn]; unfold xZ at HX ⊢; first | (rw [if_pos RU]; exact HX) | (rw [if_neg RU]; exact HX)⟩
   ·(try dsimp only); omega
 ·(try simp only [aF] at h1)
  refine eU (aZ (aZ (bK (aj (ay (ah (aN rfl (aV rfl (aA (aj (aI (aH (.inl rfl) results19 rfl ?_))))))))))))
  exact (by have HX := HL; rw [List.take_of_length_le (by omega)] at HX; exact HX)
theorem tK (H : aB w0 w F) (q1 : KF w0 F 2 (.slice none 0 0) 0 []) (q2 : iI w0 F .i32 lv A) (hl : A.length ≤ 1024) (hp : 0 ≤ pt ∧ pt ≤ A.length) :
    fG prog 20 #[.agg #[.slice none 0 0, lv, .int .i64 pt]] w fun v w' => ∃ e s, v = .pointer (some ⟨e, 0, none⟩) ∧ At s A pt ∧ aB w0 w' (dA e s • F) := by
  obtain ⟨i, rfl⟩ : ∃ i : Nat, pt = i := ⟨pt.toNat, by omega⟩
  refine fG.mono (zS (l := []) (pt := i) H q1 q2 (by decide) (by rfl) hl) ?_
  rintro v w' ⟨e, h1, h2⟩
  exact ⟨e, _, h1, Ux hl (by omega), h2⟩
end
theorem At.IW {s : bC} {L : List Int} {p : Int} (h : At s L p) (hA : Oc L) (hp : 0 ≤ p ∧ p ≤ L.length) : (p < L.length ∧ s.bU = 0 ∧ At s.gJ L (p + 1) ∧ s.gJ.AU = 0 ∧ At s.gJ.AV L p) ∨ (p = L.length ∧ s.bU = 6 ∧ At s.gJ L p) := by
  obtain ⟨i, rfl⟩ : ∃ i : Nat, p = i := ⟨p.toNat, by omega⟩
  by_cases hi : i < L.length
  · have a := h.fwd hA rfl hi
    have b := a.2.bwd hA rfl hi
    exact .inl ⟨by omega, a.1, a.2, b.1, b.2⟩
  · have a := h.Uw rfl (by omega : i = L.length)
    exact .inr ⟨by omega, a.1, a.2⟩
theorem At.allI {s : bC} {L : List Int} {p : Int} (h : At s L p) (hA : Oc L) (hL : L.length ≤ 1024) (hp : 0 ≤ p ∧ p ≤ L.length) :
    s.Oe = 0 ∧ s.mZ.dU = false ∧ s.mZ.xP = 0 ∧ s.mZ.lV.dU = false ∧ s.mZ.lV.Gz = 0 ∧ s.mZ.lV.GH.c.L = L := h.all hA (i := p.toNat) hL (by omega) (by omega)
theorem MN {w : World} {bv : Value} {bs : List Int} {point : Int} (hT : mD w) (g : iw w .u8 bv bs) (hb : ∀ k, k < bs.length → 0 ≤ bs.getD k 0 ∧ bs.getD k 0 < 256) (hL : bs.length ≤ 17179869184) :
    fG prog 6 #[bv, .int .i64 point] w fun v w' => v = .bool true ∧ Below w.heap.size w w' := by
  obtain ⟨F, H⟩ : ∃ F, aB w w F := ⟨_, aB.start w⟩
  have hv : iI w F .u8 bv bs := iI.Ja g F
  have hml : (bs.map xZ).length = bs.length := List.length_map ..
  have hlow : Oc (bs.map xZ) := Uy
  have Vk : ∀ n : Nat, 0 ≤ point % ((n : Int) + 1) ∧ point % ((n : Int) + 1) ≤ n := fun n => ⟨Int.emod_nonneg _ (by omega), by have := Int.emod_lt_of_pos point (show (0 : Int) < (n : Int) + 1 by omega); omega⟩
  refine gG func6 ntmps6 ?_
  dsimp only [bf, Nat.reduceAdd]
  refine ay (ah (aV rfl (aA (aj (ay (ah (aN rfl (bW rfl func19 (EN H (fun W HW => hv _ (HW)) hb hL) ?_))))))))
  rintro u1 w1 H1
  refine aV rfl (aA (aj (ay (ay (ah (aN rfl (aU (jC ((H1).aS) underlying22 rfl) (aU (dF rfl rfl) (aA (aj (aP rfl (fun h1 => ?_) (fun h1 => ?_))))))))))))
  · (try simp only [aF] at h1)
    have hlong := h1
    have htl : ((bs.map xZ).take (Int.toNat 1024)).length = 1024 := by rw [List.length_take, show Int.toNat 1024 = 1024 from rfl]; omega
    have hlow2 : Oc ((bs.map xZ).take (Int.toNat 1024)) := RS hlow _
    have hmm := Vk ((bs.map xZ).take (Int.toNat 1024)).length
    refine ah (aN rfl (aU (uF ((H1).aS) underlying22 sizeOf21 rfl rfl rfl (by omega)) (aV rfl (aA (aj (ay (ah (aV rfl (aA (aj (ay (ay (ah (aN rfl (aU (dF rfl rfl) (aA (aj (aP rfl (fun h2 => ?_) (fun h2 => ?_)))))))))))))))))))
    · (try simp only [aF] at h2)
      have hpos := h2
      refine ah (aN rfl (aN rfl (aU (jC (iw.upto ((H1).aS) (by omega)) underlying22 rfl) (aU (fC rfl rfl (by omega)) ?_))))
      refine aU (FM rfl rfl (by omega) (by  omega)) ?_
      refine aV rfl (aA (aj (ay (ah (aN rfl (aN rfl ?_))))))
      refine aU (fM (zl := [.slice none 0 0, .slice none 0 0, .int .i64 0]) (pl := [(0, 1), (1, 1), (2, 1)]) [_, _, _] underlying49 zeroValue49 rfl (fun w => by kernel_rfl) rfl (.zero (zs := [.slice none 0 0]) rfl (.one (Rd.one (iw.upto ((H1).aS) (by omega))) (.one (by first | rfl | assumption) .nil))) rfl) ?_
      refine bW rfl func20 (tK H1 (fun W _ => ED W 2) (fun W HW => iw.upto ((HW).aS) (by omega)) (by omega) (by omega)) ?_
      rintro _ w2 ⟨e2, sM, rfl, hat, H2⟩
      refine aV rfl (aA (aj (ay (ay (ah (bW rfl func10 (rC H2 hT) ?_))))))
      rintro _ w3 ⟨rfl, H3⟩
      refine aU (jY rfl) (eP rfl (fun h => by exfalso; (try simp only [aF] at h); simp at h) (fun h3 => ?_))
      (try simp only [aF] at h3)
      refine aX (aN rfl (aX (aU (iq underlying26 rfl rfl) (dL rfl rfl (aA (aj (aP rfl (fun h => by exfalso; (try simp only [aF] at h); simp at h) (fun h4 => ?_))))))))
      (try simp only [aF] at h4)
      refine aO (aj (ay (ay (ah (aN rfl (iy (bT (k := .i32) (l := [102]) H3 underlying22 sizeOf21 zeroValue21 rfl rfl rfl (by decide)) ?_))))))
      rintro l4 w4 H4
      refine bW rfl func11 (dh (s := sM) (keys := [102]) (name := lU) H4.f2 hat.dU (fun W HW => (HW).aS) jX kY (qy hT)) ?_
      rintro _ w5 ⟨rfl, H5⟩
      have hfw := hat.IW hlow2 (by omega)
      refine aV rfl (aA (aj (ay (ah (aN rfl (aU (fE rfl rfl) (aN rfl (aN rfl (aU (jC (iw.upto ((H5.f3).aS) (by omega)) underlying22 rfl) (aU (eF rfl rfl) (aU (vH underlying4 rfl rfl) (aA (aj (aP rfl (fun h => by exfalso; (try simp only [aF] at h); rcases hfw with ⟨q1, q2, -⟩ | ⟨q1, q2, -⟩ <;> (have q3 := q2; unfold bC.bU at q3; rw [q3] at h; first | (rw [decide_eq_true] at h; exact absurd h (by decide); omega) | (rw [decide_eq_false] at h; exact absurd h (by decide); omega))) (fun h5 => ?_)))))))))))))))
      (try simp only [aF] at h5)
      refine ay (ah (aN rfl (aU (fE rfl rfl) (eP rfl (fun h6 => ?_) (fun h6 => ?_)))))
      · (try simp only [aF] at h6)
        refine aX (aN rfl (aX (bW rfl func21 (dN H5) ?_)))
        rintro _ w6 ⟨u6, rfl, H6⟩
        refine aX (aU (dS 1 underlying53 rfl rfl (dB underlying3 rfl) rfl rfl) (aX (aN rfl (aX (aU (fC rfl rfl (by omega)) (aX (aU (bY rfl rfl) (aX (eP rfl (fun h => by exfalso; (try simp only [aF] at h); exact h (by rcases hfw with ⟨q1, q2, q3, -⟩ | ⟨q1, q2, -⟩; exact q3.pt; exact absurd (q2.symm.trans (by assumption : sM.bU = 0)) (by decide))) (fun h7 => ?_))))))))))
        (try simp only [aF] at h7)
        refine aX (aN rfl (aX (iy (bT (k := .i32) (l := [98]) H6 underlying22 sizeOf21 zeroValue21 rfl rfl rfl (by decide)) ?_)))
        rintro l7 w7 H7
        refine aX (bW rfl func11 (dh (s := sM.gJ) (keys := [98]) (name := rJ) H7.f3 (by rcases hfw with ⟨q1, q2, q3, -⟩ | ⟨q1, q2, q3⟩ <;> exact q3.dU) (fun W HW => (HW).aS) mV oD (wu hT)) ?_)
        rintro _ w8 ⟨rfl, H8⟩
        refine aX (aU (bY rfl rfl) (aX (dL rfl rfl (aX (eP rfl (fun h => by exfalso; (try simp only [aF] at h); exact h (by rcases hfw with ⟨q1, q2, q3, q4, q5⟩ | ⟨q1, q2, -⟩; exact q4; exact absurd (q2.symm.trans (by assumption : sM.bU = 0)) (by decide))) (fun h8 => ?_))))))
        (try simp only [aF] at h8)
        refine aX (aN rfl (aX (bW rfl func21 (dN H8) ?_)))
        rintro _ w9 ⟨u9, rfl, H9⟩
        refine aX (aU (dS 1 underlying53 rfl rfl (dB underlying3 rfl) rfl rfl) (aX (aN rfl (aX (aU (bY rfl rfl) (aX (dL rfl rfl (fP rfl rfl (aA (aj (aP rfl (fun h => by exfalso; (try simp only [aF] at h); exact h (by rcases hfw with ⟨q1, q2, q3, q4, q5⟩ | ⟨q1, q2, -⟩; exact q5.pt; exact absurd (q2.symm.trans (by assumption : sM.bU = 0)) (by decide))) (fun h9 => ?_))))))))))))
        (try simp only [aF] at h9)
        refine aO (aj (ay (ay ?_)))
        first | (have hst := (hfw.resolve_right (fun c => absurd (c.2.1.symm.trans (by assumption : sM.bU = 0)) (by decide))).2.2.2.2; have rY := hst.dU; have hal := hst.allI hlow2 (by omega) (by omega)) | (have hst := (hfw.resolve_left (fun c => absurd c.2.1 (by assumption))).2.2; have rY := hst.dU; have hal := hst.allI hlow2 (by omega) (by omega))
        refine ah (aN rfl (iy (bT (k := .i32) (l := [117]) H9 underlying22 sizeOf21 zeroValue21 rfl rfl rfl (by decide)) ?_))
        rintro l10 w10 oZ
        refine bW rfl func11 (dh (keys := [117]) (name := qA) oZ.f3 rY (fun W HW => (HW).aS) jM jO (qM hT)) ?_
        rintro _ KG ⟨rfl, yt⟩
        refine aU (bY rfl rfl) (eP rfl (fun h => by exfalso; (try simp only [aF] at h); exact h hal.1) (fun h10 => ?_))
        (try simp only [aF] at h10)
        refine aX (aN rfl (aX (iy (bT (k := .i32) (l := [98]) yt underlying22 sizeOf21 zeroValue21 rfl rfl rfl (by decide)) ?_)))
        rintro l12 w12 xR
        refine aX (bW rfl func11 (dh (keys := [98]) (name := kT) xR.f2 hal.2.1 (fun W HW => (HW).aS) iO iY (lI hT)) ?_)
        rintro _ Po ⟨rfl, xE⟩
        refine aX (aU (bY rfl rfl) (dL rfl rfl (eP rfl (fun h => by exfalso; (try simp only [aF] at h); exact h hal.2.2.1) (fun h11 => ?_))))
        (try simp only [aF] at h11)
        refine aX (aN rfl (aX (iy (bT (k := .i32) (l := [108]) xE underlying22 sizeOf21 zeroValue21 rfl rfl rfl (by decide)) ?_)))
        rintro ZR MX yK
        refine aX (bW rfl func11 (dh (keys := [108]) (name := kS) yK.f2 hal.2.2.2.1 (fun W HW => (HW).aS) iM iW (lH hT)) ?_)
        rintro _ Pq ⟨rfl, yu⟩
        refine aX (aU (bY rfl rfl) (dL rfl rfl (aA (aj (aP rfl (fun h => by exfalso; (try simp only [aF] at h); exact h hal.2.2.2.2.1) (fun h12 => ?_))))))
        (try simp only [aF] at h12)
        refine aO (aj (ay (ah (aN rfl (bW rfl func21 (dN yu) ?_)))))
        rintro _ w16 ⟨u16, rfl, tX⟩
        refine aU (dS 0 underlying53 rfl rfl (dB underlying22 rfl) rfl rfl) (aN rfl (bW rfl func22 (iU _ _ _ _ _ ((tX).aS) (iw.upto ((tX.f10).aS) (by omega))) ?_))
        rintro _ VF ⟨rfl, abk⟩
        have abl := tX.lW abk
        refine aV rfl (aA (aj (aI (aH (.inl rfl) results6 rfl ?_))))
        exact ⟨congrArg Value.bool (beq_iff_eq.2 hal.2.2.2.2.2), abl.base⟩
      · (try simp only [aF] at h6)
        refine bD (bD (bD (bD (bD (bD (bD (iQ (iQ (iQ (iQ (bD (bD (iQ (iQ (iQ (iQ (iQ (bD (dL rfl rfl (aA (aj (mO (aO (aj (ay (ay ?_))))))))))))))))))))))))))
        first | (have hst := (hfw.resolve_right (fun c => absurd (c.2.1.symm.trans (by assumption : sM.bU = 0)) (by decide))).2.2.2.2; have rY := hst.dU; have hal := hst.allI hlow2 (by omega) (by omega)) | (have hst := (hfw.resolve_left (fun c => absurd c.2.1 (by assumption))).2.2; have rY := hst.dU; have hal := hst.allI hlow2 (by omega) (by omega))
        refine ah (aN rfl (iy (bT (k := .i32) (l := [117]) H5 underlying22 sizeOf21 zeroValue21 rfl rfl rfl (by decide)) ?_))
        rintro l18 SL ER
        refine bW rfl func11 (dh (keys := [117]) (name := qA) ER.f2 rY (fun W HW => (HW).aS) jM jO (qM hT)) ?_
        rintro _ Tc ⟨rfl, BJ⟩
        refine aU (bY rfl rfl) (eP rfl (fun h => by exfalso; (try simp only [aF] at h); exact h hal.1) (fun h13 => ?_))
        (try simp only [aF] at h13)
        refine aX (aN rfl (aX (iy (bT (k := .i32) (l := [98]) BJ underlying22 sizeOf21 zeroValue21 rfl rfl rfl (by decide)) ?_)))
        rintro Zc SN yh
        refine aX (bW rfl func11 (dh (keys := [98]) (name := kT) yh.f2 hal.2.1 (fun W HW => (HW).aS) iO iY (lI hT)) ?_)
        rintro _ UG ⟨rfl, qF⟩
        refine aX (aU (bY rfl rfl) (dL rfl rfl (eP rfl (fun h => by exfalso; (try simp only [aF] at h); exact h hal.2.2.1) (fun h14 => ?_))))
        (try simp only [aF] at h14)
        refine aX (aN rfl (aX (iy (bT (k := .i32) (l := [108]) qF underlying22 sizeOf21 zeroValue21 rfl rfl rfl (by decide)) ?_)))
        rintro l22 XD G6
        refine aX (bW rfl func11 (dh (keys := [108]) (name := kS) G6.f2 hal.2.2.2.1 (fun W HW => (HW).aS) iM iW (lH hT)) ?_)
        rintro _ Td ⟨rfl, y5⟩
        refine aX (aU (bY rfl rfl) (dL rfl rfl (aA (aj (aP rfl (fun h => by exfalso; (try simp only [aF] at h); exact h hal.2.2.2.2.1) (fun h15 => ?_))))))
        (try simp only [aF] at h15)
        refine aO (aj (ay (ah (aN rfl (bW rfl func21 (dN y5) ?_)))))
        rintro _ XE ⟨u24, rfl, Jd⟩
        refine aU (dS 0 underlying53 rfl rfl (dB underlying22 rfl) rfl rfl) (aN rfl (bW rfl func22 (iU _ _ _ _ _ ((Jd).aS) (iw.upto ((Jd.f7).aS) (by omega))) ?_))
        rintro _ XT ⟨rfl, abm⟩
        have abn := Jd.lW abm
        refine aV rfl (aA (aj (aI (aH (.inl rfl) results6 rfl ?_))))
        exact ⟨congrArg Value.bool (beq_iff_eq.2 hal.2.2.2.2.2), abn.base⟩
    · (try simp only [aF] at h2)
      have hpos := h2
      refine aO (aj (ay (ah (aN rfl (aN rfl ?_)))))
      refine aU (fM (zl := [.slice none 0 0, .slice none 0 0, .int .i64 0]) (pl := [(0, 1), (1, 1), (2, 1)]) [_, _, _] underlying49 zeroValue49 rfl (fun w => by kernel_rfl) rfl (.zero (zs := [.slice none 0 0]) rfl (.one (Rd.one (iw.upto ((H1).aS) (by omega))) (.one (by first | rfl | assumption) .nil))) rfl) ?_
      refine bW rfl func20 (tK H1 (fun W _ => ED W 2) (fun W HW => iw.upto ((HW).aS) (by omega)) (by omega) (by omega)) ?_
      rintro _ Xa ⟨e26, sM, rfl, hat, KX⟩
      refine aV rfl (aA (aj (ay (ay (ah (bW rfl func10 (rC KX hT) ?_))))))
      rintro _ Xb ⟨rfl, Pv⟩
      refine aU (jY rfl) (eP rfl (fun h => by exfalso; (try simp only [aF] at h); simp at h) (fun h16 => ?_))
      (try simp only [aF] at h16)
      refine aX (aN rfl (aX (aU (iq underlying26 rfl rfl) (dL rfl rfl (aA (aj (aP rfl (fun h => by exfalso; (try simp only [aF] at h); simp at h) (fun h17 => ?_))))))))
      (try simp only [aF] at h17)
      refine aO (aj (ay (ay (ah (aN rfl (iy (bT (k := .i32) (l := [102]) Pv underlying22 sizeOf21 zeroValue21 rfl rfl rfl (by decide)) ?_))))))
      rintro l28 XU Px
      refine bW rfl func11 (dh (s := sM) (keys := [102]) (name := lU) Px.f2 hat.dU (fun W HW => (HW).aS) jX kY (qy hT)) ?_
      rintro _ Zt ⟨rfl, Qa⟩
      have hfw := hat.IW hlow2 (by omega)
      refine aV rfl (aA (aj (ay (ah (aN rfl (aU (fE rfl rfl) (aN rfl (aN rfl (aU (jC (iw.upto ((Qa.f3).aS) (by omega)) underlying22 rfl) (aU (eF rfl rfl) (aU (vH underlying4 rfl rfl) (aA (aj (aP rfl (fun h => by exfalso; (try simp only [aF] at h); rcases hfw with ⟨q1, q2, -⟩ | ⟨q1, q2, -⟩ <;> (have q3 := q2; unfold bC.bU at q3; rw [q3] at h; first | (rw [decide_eq_true] at h; exact absurd h (by decide); omega) | (rw [decide_eq_false] at h; exact absurd h (by decide); omega))) (fun h18 => ?_)))))))))))))))
      (try simp only [aF] at h18)
      refine ay (ah (aN rfl (aU (fE rfl rfl) (eP rfl (fun h19 => ?_) (fun h19 => ?_)))))
      · (try simp only [aF] at h19)
        refine aX (aN rfl (aX (bW rfl func21 (dN Qa) ?_)))
        rintro _ Y6 ⟨u30, rfl, Ov⟩
        refine aX (aU (dS 1 underlying53 rfl rfl (dB underlying3 rfl) rfl rfl) (aX (aN rfl (aX (aU (fC rfl rfl (by omega)) (aX (aU (bY rfl rfl) (aX (eP rfl (fun h => by exfalso; (try simp only [aF] at h); exact h (by rcases hfw with ⟨q1, q2, q3, -⟩ | ⟨q1, q2, -⟩; exact q3.pt; exact absurd (q2.symm.trans (by assumption : sM.bU = 0)) (by decide))) (fun h20 => ?_))))))))))
        (try simp only [aF] at h20)
        refine aX (aN rfl (aX (iy (bT (k := .i32) (l := [98]) Ov underlying22 sizeOf21 zeroValue21 rfl rfl rfl (by decide)) ?_)))
        rintro l31 Xc Jk
        refine aX (bW rfl func11 (dh (s := sM.gJ) (keys := [98]) (name := rJ) Jk.f3 (by rcases hfw with ⟨q1, q2, q3, -⟩ | ⟨q1, q2, q3⟩ <;> exact q3.dU) (fun W HW => (HW).aS) mV oD (wu hT)) ?_)
        rintro _ w32 ⟨rfl, Nj⟩
        refine aX (aU (bY rfl rfl) (aX (dL rfl rfl (aX (eP rfl (fun h => by exfalso; (try simp only [aF] at h); exact h (by rcases hfw with ⟨q1, q2, q3, q4, q5⟩ | ⟨q1, q2, -⟩; exact q4; exact absurd (q2.symm.trans (by assumption : sM.bU = 0)) (by decide))) (fun h21 => ?_))))))
        (try simp only [aF] at h21)
        refine aX (aN rfl (aX (bW rfl func21 (dN Nj) ?_)))
        rintro _ XV ⟨u33, rfl, Jl⟩
        refine aX (aU (dS 1 underlying53 rfl rfl (dB underlying3 rfl) rfl rfl) (aX (aN rfl (aX (aU (bY rfl rfl) (aX (dL rfl rfl (fP rfl rfl (aA (aj (aP rfl (fun h => by exfalso; (try simp only [aF] at h); exact h (by rcases hfw with ⟨q1, q2, q3, q4, q5⟩ | ⟨q1, q2, -⟩; exact q5.pt; exact absurd (q2.symm.trans (by assumption : sM.bU = 0)) (by decide))) (fun h22 => ?_))))))))))))
        (try simp only [aF] at h22)
        refine aO (aj (ay (ay ?_)))
        first | (have hst := (hfw.resolve_right (fun c => absurd (c.2.1.symm.trans (by assumption : sM.bU = 0)) (by decide))).2.2.2.2; have rY := hst.dU; have hal := hst.allI hlow2 (by omega) (by omega)) | (have hst := (hfw.resolve_left (fun c => absurd c.2.1 (by assumption))).2.2; have rY := hst.dU; have hal := hst.allI hlow2 (by omega) (by omega))
        refine ah (aN rfl (iy (bT (k := .i32) (l := [117]) Jl underlying22 sizeOf21 zeroValue21 rfl rfl rfl (by decide)) ?_))
        rintro l34 Y7 Py
        refine bW rfl func11 (dh (keys := [117]) (name := qA) Py.f3 rY (fun W HW => (HW).aS) jM jO (qM hT)) ?_
        rintro _ Zu ⟨rfl, UH⟩
        refine aU (bY rfl rfl) (eP rfl (fun h => by exfalso; (try simp only [aF] at h); exact h hal.1) (fun h23 => ?_))
        (try simp only [aF] at h23)
        refine aX (aN rfl (aX (iy (bT (k := .i32) (l := [98]) UH underlying22 sizeOf21 zeroValue21 rfl rfl rfl (by decide)) ?_)))
        rintro l36 Zv VG
        refine aX (bW rfl func11 (dh (keys := [98]) (name := kT) VG.f2 hal.2.1 (fun W HW => (HW).aS) iO iY (lI hT)) ?_)
        rintro _ w37 ⟨rfl, XW⟩
        refine aX (aU (bY rfl rfl) (dL rfl rfl (eP rfl (fun h => by exfalso; (try simp only [aF] at h); exact h hal.2.2.1) (fun h24 => ?_))))
        (try simp only [aF] at h24)
        refine aX (aN rfl (aX (iy (bT (k := .i32) (l := [108]) XW underlying22 sizeOf21 zeroValue21 rfl rfl rfl (by decide)) ?_)))
        rintro l38 Xd Tf
        refine aX (bW rfl func11 (dh (keys := [108]) (name := kS) Tf.f2 hal.2.2.2.1 (fun W HW => (HW).aS) iM iW (lH hT)) ?_)
        rintro _ Zw ⟨rfl, Xf⟩
        refine aX (aU (bY rfl rfl) (dL rfl rfl (aA (aj (aP rfl (fun h => by exfalso; (try simp only [aF] at h); exact h hal.2.2.2.2.1) (fun h25 => ?_))))))
        (try simp only [aF] at h25)
        refine aO (aj (ay (ah (aN rfl (bW rfl func21 (dN Xf) ?_)))))
        rintro _ w40 ⟨u40, rfl, UJ⟩
        refine aU (dS 0 underlying53 rfl rfl (dB underlying22 rfl) rfl rfl) (aN rfl (bW rfl func22 (iU _ _ _ _ _ ((UJ).aS) (iw.upto ((UJ.f10).aS) (by omega))) ?_))
        rintro _ Zx ⟨rfl, abo⟩
        have abp := UJ.lW abo
        refine aV rfl (aA (aj (aI (aH (.inl rfl) results6 rfl ?_))))
        exact ⟨congrArg Value.bool (beq_iff_eq.2 hal.2.2.2.2.2), abp.base⟩
      · (try simp only [aF] at h19)
        refine bD (bD (bD (bD (bD (bD (bD (iQ (iQ (iQ (iQ (bD (bD (iQ (iQ (iQ (iQ (iQ (bD (dL rfl rfl (aA (aj (mO (aO (aj (ay (ay ?_))))))))))))))))))))))))))
        first | (have hst := (hfw.resolve_right (fun c => absurd (c.2.1.symm.trans (by assumption : sM.bU = 0)) (by decide))).2.2.2.2; have rY := hst.dU; have hal := hst.allI hlow2 (by omega) (by omega)) | (have hst := (hfw.resolve_left (fun c => absurd c.2.1 (by assumption))).2.2; have rY := hst.dU; have hal := hst.allI hlow2 (by omega) (by omega))
        refine ah (aN rfl (iy (bT (k := .i32) (l := [117]) Qa underlying22 sizeOf21 zeroValue21 rfl rfl rfl (by decide)) ?_))
        rintro l42 Zy UL
        refine bW rfl func11 (dh (keys := [117]) (name := qA) UL.f2 rY (fun W HW => (HW).aS) jM jO (qM hT)) ?_
        rintro _ Y8 ⟨rfl, UM⟩
        refine aU (bY rfl rfl) (eP rfl (fun h => by exfalso; (try simp only [aF] at h); exact h hal.1) (fun h26 => ?_))
        (try simp only [aF] at h26)
        refine aX (aN rfl (aX (iy (bT (k := .i32) (l := [98]) UM underlying22 sizeOf21 zeroValue21 rfl rfl rfl (by decide)) ?_)))
        rintro l44 Zz Ti
        refine aX (bW rfl func11 (dh (keys := [98]) (name := kT) Ti.f2 hal.2.1 (fun W HW => (HW).aS) iO iY (lI hT)) ?_)
        rintro _ XY ⟨rfl, RX⟩
        refine aX (aU (bY rfl rfl) (dL rfl rfl (eP rfl (fun h => by exfalso; (try simp only [aF] at h); exact h hal.2.2.1) (fun h27 => ?_))))
        (try simp only [aF] at h27)
        refine aX (aN rfl (aX (iy (bT (k := .i32) (l := [108]) RX underlying22 sizeOf21 zeroValue21 rfl rfl rfl (by decide)) ?_)))
        rintro l46 ZA VH
        refine aX (bW rfl func11 (dh (keys := [108]) (name := kS) VH.f2 hal.2.2.2.1 (fun W HW => (HW).aS) iM iW (lH hT)) ?_)
        rintro _ ZB ⟨rfl, UN⟩
        refine aX (aU (bY rfl rfl) (dL rfl rfl (aA (aj (aP rfl (fun h => by exfalso; (try simp only [aF] at h); exact h hal.2.2.2.2.1) (fun h28 => ?_))))))
        (try simp only [aF] at h28)
        refine aO (aj (ay (ah (aN rfl (bW rfl func21 (dN UN) ?_)))))
        rintro _ w48 ⟨u48, rfl, WE⟩
        refine aU (dS 0 underlying53 rfl rfl (dB underlying22 rfl) rfl rfl) (aN rfl (bW rfl func22 (iU _ _ _ _ _ ((WE).aS) (iw.upto ((WE.f7).aS) (by omega))) ?_))
        rintro _ w49 ⟨rfl, abq⟩
        have abr := WE.lW abq
        refine aV rfl (aA (aj (aI (aH (.inl rfl) results6 rfl ?_))))
        exact ⟨congrArg Value.bool (beq_iff_eq.2 hal.2.2.2.2.2), abr.base⟩
  · (try simp only [aF] at h1)
    have hlong := h1
    have hlow2 := hlow
    have hmm := Vk (bs.map xZ).length
    refine aO (aj (ay (ah (aV rfl (aA (aj (ay (ay (ah (aN rfl (aU (dF rfl rfl) (aA (aj (aP rfl (fun h29 => ?_) (fun h29 => ?_)))))))))))))))
    · (try simp only [aF] at h29)
      have hpos := h29
      refine ah (aN rfl (aN rfl (aU (jC ((H1).aS) underlying22 rfl) (aU (fC rfl rfl (by omega)) ?_))))
      refine aU (FM rfl rfl (by omega) (by  omega)) ?_
      refine aV rfl (aA (aj (ay (ah (aN rfl (aN rfl ?_))))))
      refine aU (fM (zl := [.slice none 0 0, .slice none 0 0, .int .i64 0]) (pl := [(0, 1), (1, 1), (2, 1)]) [_, _, _] underlying49 zeroValue49 rfl (fun w => by kernel_rfl) rfl (.zero (zs := [.slice none 0 0]) rfl (.one (Rd.one ((H1).aS)) (.one (by first | rfl | assumption) .nil))) rfl) ?_
      refine bW rfl func20 (tK H1 (fun W _ => ED W 2) (fun W HW => (HW).aS) (by omega) (by omega)) ?_
      rintro _ w50 ⟨e50, sM, rfl, hat, U2⟩
      refine aV rfl (aA (aj (ay (ay (ah (bW rfl func10 (rC U2 hT) ?_))))))
      rintro _ w51 ⟨rfl, TT⟩
      refine aU (jY rfl) (eP rfl (fun h => by exfalso; (try simp only [aF] at h); simp at h) (fun h30 => ?_))
      (try simp only [aF] at h30)
      refine aX (aN rfl (aX (aU (iq underlying26 rfl rfl) (dL rfl rfl (aA (aj (aP rfl (fun h => by exfalso; (try simp only [aF] at h); simp at h) (fun h31 => ?_))))))))
      (try simp only [aF] at h31)
      refine aO (aj (ay (ay (ah (aN rfl (iy (bT (k := .i32) (l := [102]) TT underlying22 sizeOf21 zeroValue21 rfl rfl rfl (by decide)) ?_))))))
      rintro l52 w52 RZ
      refine bW rfl func11 (dh (s := sM) (keys := [102]) (name := lU) RZ.f2 hat.dU (fun W HW => (HW).aS) jX kY (qy hT)) ?_
      rintro _ w53 ⟨rfl, Si⟩
      have hfw := hat.IW hlow2 (by omega)
      refine aV rfl (aA (aj (ay (ah (aN rfl (aU (fE rfl rfl) (aN rfl (aN rfl (aU (jC ((Si.f3).aS) underlying22 rfl) (aU (eF rfl rfl) (aU (vH underlying4 rfl rfl) (aA (aj (aP rfl (fun h => by exfalso; (try simp only [aF] at h); rcases hfw with ⟨q1, q2, -⟩ | ⟨q1, q2, -⟩ <;> (have q3 := q2; unfold bC.bU at q3; rw [q3] at h; first | (rw [decide_eq_true] at h; exact absurd h (by decide); omega) | (rw [decide_eq_false] at h; exact absurd h (by decide); omega))) (fun h32 => ?_)))))))))))))))
      (try simp only [aF] at h32)
      refine ay (ah (aN rfl (aU (fE rfl rfl) (eP rfl (fun h33 => ?_) (fun h33 => ?_)))))
      · (try simp only [aF] at h33)
        refine aX (aN rfl (aX (bW rfl func21 (dN Si) ?_)))
        rintro _ w54 ⟨u54, rfl, YD⟩
        refine aX (aU (dS 1 underlying53 rfl rfl (dB underlying3 rfl) rfl rfl) (aX (aN rfl (aX (aU (fC rfl rfl (by omega)) (aX (aU (bY rfl rfl) (aX (eP rfl (fun h => by exfalso; (try simp only [aF] at h); exact h (by rcases hfw with ⟨q1, q2, q3, -⟩ | ⟨q1, q2, -⟩; exact q3.pt; exact absurd (q2.symm.trans (by assumption : sM.bU = 0)) (by decide))) (fun h34 => ?_))))))))))
        (try simp only [aF] at h34)
        refine aX (aN rfl (aX (iy (bT (k := .i32) (l := [98]) YD underlying22 sizeOf21 zeroValue21 rfl rfl rfl (by decide)) ?_)))
        rintro l55 w55 Xl
        refine aX (bW rfl func11 (dh (s := sM.gJ) (keys := [98]) (name := rJ) Xl.f3 (by rcases hfw with ⟨q1, q2, q3, -⟩ | ⟨q1, q2, q3⟩ <;> exact q3.dU) (fun W HW => (HW).aS) mV oD (wu hT)) ?_)
        rintro _ w56 ⟨rfl, YS⟩
        refine aX (aU (bY rfl rfl) (aX (dL rfl rfl (aX (eP rfl (fun h => by exfalso; (try simp only [aF] at h); exact h (by rcases hfw with ⟨q1, q2, q3, q4, q5⟩ | ⟨q1, q2, -⟩; exact q4; exact absurd (q2.symm.trans (by assumption : sM.bU = 0)) (by decide))) (fun h35 => ?_))))))
        (try simp only [aF] at h35)
        refine aX (aN rfl (aX (bW rfl func21 (dN YS) ?_)))
        rintro _ w57 ⟨u57, rfl, H57⟩
        refine aX (aU (dS 1 underlying53 rfl rfl (dB underlying3 rfl) rfl rfl) (aX (aN rfl (aX (aU (bY rfl rfl) (aX (dL rfl rfl (fP rfl rfl (aA (aj (aP rfl (fun h => by exfalso; (try simp only [aF] at h); exact h (by rcases hfw with ⟨q1, q2, q3, q4, q5⟩ | ⟨q1, q2, -⟩; exact q5.pt; exact absurd (q2.symm.trans (by assumption : sM.bU = 0)) (by decide))) (fun h36 => ?_))))))))))))
        (try simp only [aF] at h36)
        refine aO (aj (ay (ay ?_)))
        first | (have hst := (hfw.resolve_right (fun c => absurd (c.2.1.symm.trans (by assumption : sM.bU = 0)) (by decide))).2.2.2.2; have rY := hst.dU; have hal := hst.allI hlow2 (by omega) (by omega)) | (have hst := (hfw.resolve_left (fun c => absurd c.2.1 (by assumption))).2.2; have rY := hst.dU; have hal := hst.allI hlow2 (by omega) (by omega))
        refine ah (aN rfl (iy (bT (k := .i32) (l := [117]) H57 underlying22 sizeOf21 zeroValue21 rfl rfl rfl (by decide)) ?_))
        rintro l58 w58 QO
        refine bW rfl func11 (dh (keys := [117]) (name := qA) QO.f3 rY (fun W HW => (HW).aS) jM jO (qM hT)) ?_
        rintro _ w59 ⟨rfl, Wj⟩
        refine aU (bY rfl rfl) (eP rfl (fun h => by exfalso; (try simp only [aF] at h); exact h hal.1) (fun h37 => ?_))
        (try simp only [aF] at h37)
        refine aX (aN rfl (aX (iy (bT (k := .i32) (l := [98]) Wj underlying22 sizeOf21 zeroValue21 rfl rfl rfl (by decide)) ?_)))
        rintro l60 Zg U4
        refine aX (bW rfl func11 (dh (keys := [98]) (name := kT) U4.f2 hal.2.1 (fun W HW => (HW).aS) iO iY (lI hT)) ?_)
        rintro _ w61 ⟨rfl, Xm⟩
        refine aX (aU (bY rfl rfl) (dL rfl rfl (eP rfl (fun h => by exfalso; (try simp only [aF] at h); exact h hal.2.2.1) (fun h38 => ?_))))
        (try simp only [aF] at h38)
        refine aX (aN rfl (aX (iy (bT (k := .i32) (l := [108]) Xm underlying22 sizeOf21 zeroValue21 rfl rfl rfl (by decide)) ?_)))
        rintro l62 w62 Wn
        refine aX (bW rfl func11 (dh (keys := [108]) (name := kS) Wn.f2 hal.2.2.2.1 (fun W HW => (HW).aS) iM iW (lH hT)) ?_)
        rintro _ w63 ⟨rfl, Wp⟩
        refine aX (aU (bY rfl rfl) (dL rfl rfl (aA (aj (aP rfl (fun h => by exfalso; (try simp only [aF] at h); exact h hal.2.2.2.2.1) (fun h39 => ?_))))))
        (try simp only [aF] at h39)
        refine aO (aj (ay (ah (aN rfl (bW rfl func21 (dN Wp) ?_)))))
        rintro _ w64 ⟨u64, rfl, TU⟩
        refine aU (dS 0 underlying53 rfl rfl (dB underlying22 rfl) rfl rfl) (aN rfl (bW rfl func22 (iU _ _ _ _ _ ((TU).aS) ((TU.f10).aS)) ?_))
        rintro _ w65 ⟨rfl, abt⟩
        have abu := TU.lW abt
        refine aV rfl (aA (aj (aI (aH (.inl rfl) results6 rfl ?_))))
        exact ⟨congrArg Value.bool (beq_iff_eq.2 hal.2.2.2.2.2), abu.base⟩
      · (try simp only [aF] at h33)
        refine bD (bD (bD (bD (bD (bD (bD (iQ (iQ (iQ (iQ (bD (bD (iQ (iQ (iQ (iQ (iQ (bD (dL rfl rfl (aA (aj (mO (aO (aj (ay (ay ?_))))))))))))))))))))))))))
        first | (have hst := (hfw.resolve_right (fun c => absurd (c.2.1.symm.trans (by assumption : sM.bU = 0)) (by decide))).2.2.2.2; have rY := hst.dU; have hal := hst.allI hlow2 (by omega) (by omega)) | (have hst := (hfw.resolve_left (fun c => absurd c.2.1 (by assumption))).2.2; have rY := hst.dU; have hal := hst.allI hlow2 (by omega) (by omega))
        refine ah (aN rfl (iy (bT (k := .i32) (l := [117]) Si underlying22 sizeOf21 zeroValue21 rfl rfl rfl (by decide)) ?_))
        rintro l66 w66 Zh
        refine bW rfl func11 (dh (keys := [117]) (name := qA) Zh.f2 rY (fun W HW => (HW).aS) jM jO (qM hT)) ?_
        rintro _ w67 ⟨rfl, YT⟩
        refine aU (bY rfl rfl) (eP rfl (fun h => by exfalso; (try simp only [aF] at h); exact h hal.1) (fun h40 => ?_))
        (try simp only [aF] at h40)
        refine aX (aN rfl (aX (iy (bT (k := .i32) (l := [98]) YT underlying22 sizeOf21 zeroValue21 rfl rfl rfl (by decide)) ?_)))
        rintro l68 w68 Xn
        refine aX (bW rfl func11 (dh (keys := [98]) (name := kT) Xn.f2 hal.2.1 (fun W HW => (HW).aS) iO iY (lI hT)) ?_)
        rintro _ w69 ⟨rfl, Xo⟩
        refine aX (aU (bY rfl rfl) (dL rfl rfl (eP rfl (fun h => by exfalso; (try simp only [aF] at h); exact h hal.2.2.1) (fun h41 => ?_))))
        (try simp only [aF] at h41)
        refine aX (aN rfl (aX (iy (bT (k := .i32) (l := [108]) Xo underlying22 sizeOf21 zeroValue21 rfl rfl rfl (by decide)) ?_)))
        rintro l70 w70 Wq
        refine aX (bW rfl func11 (dh (keys := [108]) (name := kS) Wq.f2 hal.2.2.2.1 (fun W HW => (HW).aS) iM iW (lH hT)) ?_)
        rintro _ w71 ⟨rfl, U7⟩
        refine aX (aU (bY rfl rfl) (dL rfl rfl (aA (aj (aP rfl (fun h => by exfalso; (try simp only [aF] at h); exact h hal.2.2.2.2.1) (fun h42 => ?_))))))
        (try simp only [aF] at h42)
        refine aO (aj (ay (ah (aN rfl (bW rfl func21 (dN U7) ?_)))))
        rintro _ w72 ⟨u72, rfl, Ws⟩
        refine aU (dS 0 underlying53 rfl rfl (dB underlying22 rfl) rfl rfl) (aN rfl (bW rfl func22 (iU _ _ _ _ _ ((Ws).aS) ((Ws.f7).aS)) ?_))
        rintro _ w73 ⟨rfl, abv⟩
        have abw := Ws.lW abv
        refine aV rfl (aA (aj (aI (aH (.inl rfl) results6 rfl ?_))))
        exact ⟨congrArg Value.bool (beq_iff_eq.2 hal.2.2.2.2.2), abw.base⟩
    · (try simp only [aF] at h29)
      have hpos := h29
      refine aO (aj (ay (ah (aN rfl (aN rfl ?_)))))
      refine aU (fM (zl := [.slice none 0 0, .slice none 0 0, .int .i64 0]) (pl := [(0, 1), (1, 1), (2, 1)]) [_, _, _] underlying49 zeroValue49 rfl (fun w => by kernel_rfl) rfl (.zero (zs := [.slice none 0 0]) rfl (.one (Rd.one ((H1).aS)) (.one (by first | rfl | assumption) .nil))) rfl) ?_
      refine bW rfl func20 (tK H1 (fun W _ => ED W 2) (fun W HW => (HW).aS) (by omega) (by omega)) ?_
      rintro _ w74 ⟨e74, sM, rfl, hat, H74⟩
      refine aV rfl (aA (aj (ay (ay (ah (bW rfl func10 (rC H74 hT) ?_))))))
      rintro _ w75 ⟨rfl, H75⟩
      refine aU (jY rfl) (eP rfl (fun h => by exfalso; (try simp only [aF] at h); simp at h) (fun h43 => ?_))
      (try simp only [aF] at h43)
      refine aX (aN rfl (aX (aU (iq underlying26 rfl rfl) (dL rfl rfl (aA (aj (aP rfl (fun h => by exfalso; (try simp only [aF] at h); simp at h) (fun h44 => ?_))))))))
      (try simp only [aF] at h44)
      refine aO (aj (ay (ay (ah (aN rfl (iy (bT (k := .i32) (l := [102]) H75 underlying22 sizeOf21 zeroValue21 rfl rfl rfl (by decide)) ?_))))))
      rintro l76 w76 H76
      refine bW rfl func11 (dh (s := sM) (keys := [102]) (name := lU) H76.f2 hat.dU (fun W HW => (HW).aS) jX kY (qy hT)) ?_
      rintro _ w77 ⟨rfl, Xp⟩
      have hfw := hat.IW hlow2 (by omega)
      refine aV rfl (aA (aj (ay (ah (aN rfl (aU (fE rfl rfl) (aN rfl (aN rfl (aU (jC ((Xp.f3).aS) underlying22 rfl) (aU (eF rfl rfl) (aU (vH underlying4 rfl rfl) (aA (aj (aP rfl (fun h => by exfalso; (try simp only [aF] at h); rcases hfw with ⟨q1, q2, -⟩ | ⟨q1, q2, -⟩ <;> (have q3 := q2; unfold bC.bU at q3; rw [q3] at h; first | (rw [decide_eq_true] at h; exact absurd h (by decide); omega) | (rw [decide_eq_false] at h; exact absurd h (by decide); omega))) (fun h45 => ?_)))))))))))))))
      (try simp only [aF] at h45)
      refine ay (ah (aN rfl (aU (fE rfl rfl) (eP rfl (fun h46 => ?_) (fun h46 => ?_)))))
      · (try simp only [aF] at h46)
        refine aX (aN rfl (aX (bW rfl func21 (dN Xp) ?_)))
        rintro _ w78 ⟨u78, rfl, YU⟩
        refine aX (aU (dS 1 underlying53 rfl rfl (dB underlying3 rfl) rfl rfl) (aX (aN rfl (aX (aU (fC rfl rfl (by omega)) (aX (aU (bY rfl rfl) (aX (eP rfl (fun h => by exfalso; (try simp only [aF] at h); exact h (by rcases hfw with ⟨q1, q2, q3, -⟩ | ⟨q1, q2, -⟩; exact q3.pt; exact absurd (q2.symm.trans (by assumption : sM.bU = 0)) (by decide))) (fun h47 => ?_))))))))))
        (try simp only [aF] at h47)
        refine aX (aN rfl (aX (iy (bT (k := .i32) (l := [98]) YU underlying22 sizeOf21 zeroValue21 rfl rfl rfl (by decide)) ?_)))
        rintro l79 w79 H79
        refine aX (bW rfl func11 (dh (s := sM.gJ) (keys := [98]) (name := rJ) H79.f3 (by rcases hfw with ⟨q1, q2, q3, -⟩ | ⟨q1, q2, q3⟩ <;> exact q3.dU) (fun W HW => (HW).aS) mV oD (wu hT)) ?_)
        rintro _ w80 ⟨rfl, H80⟩
        refine aX (aU (bY rfl rfl) (aX (dL rfl rfl (aX (eP rfl (fun h => by exfalso; (try simp only [aF] at h); exact h (by rcases hfw with ⟨q1, q2, q3, q4, q5⟩ | ⟨q1, q2, -⟩; exact q4; exact absurd (q2.symm.trans (by assumption : sM.bU = 0)) (by decide))) (fun h48 => ?_))))))
        (try simp only [aF] at h48)
        refine aX (aN rfl (aX (bW rfl func21 (dN H80) ?_)))
        rintro _ w81 ⟨u81, rfl, H81⟩
        refine aX (aU (dS 1 underlying53 rfl rfl (dB underlying3 rfl) rfl rfl) (aX (aN rfl (aX (aU (bY rfl rfl) (aX (dL rfl rfl (fP rfl rfl (aA (aj (aP rfl (fun h => by exfalso; (try simp only [aF] at h); exact h (by rcases hfw with ⟨q1, q2, q3, q4, q5⟩ | ⟨q1, q2, -⟩; exact q5.pt; exact absurd (q2.symm.trans (by assumption : sM.bU = 0)) (by decide))) (fun h49 => ?_))))))))))))
        (try simp only [aF] at h49)
        refine aO (aj (ay (ay ?_)))
        first | (have hst := (hfw.resolve_right (fun c => absurd (c.2.1.symm.trans (by assumption : sM.bU = 0)) (by decide))).2.2.2.2; have rY := hst.dU; have hal := hst.allI hlow2 (by omega) (by omega)) | (have hst := (hfw.resolve_left (fun c => absurd c.2.1 (by assumption))).2.2; have rY := hst.dU; have hal := hst.allI hlow2 (by omega) (by omega))
        refine ah (aN rfl (iy (bT (k := .i32) (l := [117]) H81 underlying22 sizeOf21 zeroValue21 rfl rfl rfl (by decide)) ?_))
        rintro l82 w82 H82
        refine bW rfl func11 (dh (keys := [117]) (name := qA) H82.f3 rY (fun W HW => (HW).aS) jM jO (qM hT)) ?_
        rintro _ w83 ⟨rfl, H83⟩
        refine aU (bY rfl rfl) (eP rfl (fun h => by exfalso; (try simp only [aF] at h); exact h hal.1) (fun h50 => ?_))
        (try simp only [aF] at h50)
        refine aX (aN rfl (aX (iy (bT (k := .i32) (l := [98]) H83 underlying22 sizeOf21 zeroValue21 rfl rfl rfl (by decide)) ?_)))
        rintro l84 w84 H84
        refine aX (bW rfl func11 (dh (keys := [98]) (name := kT) H84.f2 hal.2.1 (fun W HW => (HW).aS) iO iY (lI hT)) ?_)
        rintro _ w85 ⟨rfl, H85⟩
        refine aX (aU (bY rfl rfl) (dL rfl rfl (eP rfl (fun h => by exfalso; (try simp only [aF] at h); exact h hal.2.2.1) (fun h51 => ?_))))
        (try simp only [aF] at h51)
        refine aX (aN rfl (aX (iy (bT (k := .i32) (l := [108]) H85 underlying22 sizeOf21 zeroValue21 rfl rfl rfl (by decide)) ?_)))
        rintro l86 w86 H86
        refine aX (bW rfl func11 (dh (keys := [108]) (name := kS) H86.f2 hal.2.2.2.1 (fun W HW => (HW).aS) iM iW (lH hT)) ?_)
        rintro _ w87 ⟨rfl, H87⟩
        refine aX (aU (bY rfl rfl) (dL rfl rfl (aA (aj (aP rfl (fun h => by exfalso; (try simp only [aF] at h); exact h hal.2.2.2.2.1) (fun h52 => ?_))))))
        (try simp only [aF] at h52)
        refine aO (aj (ay (ah (aN rfl (bW rfl func21 (dN H87) ?_)))))
        rintro _ w88 ⟨u88, rfl, H88⟩
        refine aU (dS 0 underlying53 rfl rfl (dB underlying22 rfl) rfl rfl) (aN rfl (bW rfl func22 (iU _ _ _ _ _ ((H88).aS) ((H88.f10).aS)) ?_))
        rintro _ w89 ⟨rfl, abx⟩
        have aby := H88.lW abx
        refine aV rfl (aA (aj (aI (aH (.inl rfl) results6 rfl ?_))))
        exact ⟨congrArg Value.bool (beq_iff_eq.2 hal.2.2.2.2.2), aby.base⟩
      · (try simp only [aF] at h46)
        refine bD (bD (bD (bD (bD (bD (bD (iQ (iQ (iQ (iQ (bD (bD (iQ (iQ (iQ (iQ (iQ (bD (dL rfl rfl (aA (aj (mO (aO (aj (ay (ay ?_))))))))))))))))))))))))))
        first | (have hst := (hfw.resolve_right (fun c => absurd (c.2.1.symm.trans (by assumption : sM.bU = 0)) (by decide))).2.2.2.2; have rY := hst.dU; have hal := hst.allI hlow2 (by omega) (by omega)) | (have hst := (hfw.resolve_left (fun c => absurd c.2.1 (by assumption))).2.2; have rY := hst.dU; have hal := hst.allI hlow2 (by omega) (by omega))
        refine ah (aN rfl (iy (bT (k := .i32) (l := [117]) Xp underlying22 sizeOf21 zeroValue21 rfl rfl rfl (by decide)) ?_))
        rintro l90 w90 H90
        refine bW rfl func11 (dh (keys := [117]) (name := qA) H90.f2 rY (fun W HW => (HW).aS) jM jO (qM hT)) ?_
        rintro _ w91 ⟨rfl, H91⟩
        refine aU (bY rfl rfl) (eP rfl (fun h => by exfalso; (try simp only [aF] at h); exact h hal.1) (fun h53 => ?_))
        (try simp only [aF] at h53)
        refine aX (aN rfl (aX (iy (bT (k := .i32) (l := [98]) H91 underlying22 sizeOf21 zeroValue21 rfl rfl rfl (by decide)) ?_)))
        rintro l92 w92 H92
        refine aX (bW rfl func11 (dh (keys := [98]) (name := kT) H92.f2 hal.2.1 (fun W HW => (HW).aS) iO iY (lI hT)) ?_)
        rintro _ w93 ⟨rfl, H93⟩
        refine aX (aU (bY rfl rfl) (dL rfl rfl (eP rfl (fun h => by exfalso; (try simp only [aF] at h); exact h hal.2.2.1) (fun h54 => ?_))))
        (try simp only [aF] at h54)
        refine aX (aN rfl (aX (iy (bT (k := .i32) (l := [108]) H93 underlying22 sizeOf21 zeroValue21 rfl rfl rfl (by decide)) ?_)))
        rintro l94 w94 H94
        refine aX (bW rfl func11 (dh (keys := [108]) (name := kS) H94.f2 hal.2.2.2.1 (fun W HW => (HW).aS) iM iW (lH hT)) ?_)
        rintro _ w95 ⟨rfl, H95⟩
        refine aX (aU (bY rfl rfl) (dL rfl rfl (aA (aj (aP rfl (fun h => by exfalso; (try simp only [aF] at h); exact h hal.2.2.2.2.1) (fun h55 => ?_))))))
        (try simp only [aF] at h55)
        refine aO (aj (ay (ah (aN rfl (bW rfl func21 (dN H95) ?_)))))
        rintro _ w96 ⟨u96, rfl, H96⟩
        refine aU (dS 0 underlying53 rfl rfl (dB underlying22 rfl) rfl rfl) (aN rfl (bW rfl func22 (iU _ _ _ _ _ ((H96).aS) ((H96.f7).aS)) ?_))
        rintro _ w97 ⟨rfl, abz⟩
        have abA := H96.lW abz
        refine aV rfl (aA (aj (aI (aH (.inl rfl) results6 rfl ?_))))
        exact ⟨congrArg Value.bool (beq_iff_eq.2 hal.2.2.2.2.2), abA.base⟩
end Go.Proofs.YtgndbccogcofjaaGreatDoor
end
section
set_option maxRecDepth 100000
namespace Go.Proofs.YtgndbccogcofjaaGreatDoor
open Go.ChangeShapes Go.WideShapes Go.ChangeAt Go.RowKit
set_option maxRecDepth 100000 in
theorem zV (os : Os) (started : os.Started) (H : Type) (enc : TypeId × Value → H) (F : Stop.Interp) :
    ReturnsInHanded {} Tryz.checked os 6 .any ((Rows.OpenSpec.upto Rows.emacsBackSpec).preRow enc Tryz.prog Tryz.f6 Rows.emacsBackUptoRow.domain false Jg) (((Rows.OpenSpec.upto Rows.emacsBackSpec).at F).post enc Tryz.prog Tryz.f6 false true false false) := by
  refine yL (C := Tryz.checked) (tb := 4) (M := 4096) (z := 275) _ (by kernel_rfl) (by decide) (by kernel_rfl) own laid started (by kernel_rfl) Tryz.func6 (congrArg Array.toList Tryz.params6) rfl Tryz.underlying4 rfl (by kernel_rfl) (fun ds hd => ?_)
    (witness_row_at (enc := enc) (C := Tryz.checked) false (World.laidAll Tryz.prog os Jg) #[.slice none 0 0, .int .i64 0] (World.laidAll_os _ _ _) (by kernel_rfl) (by kernel_rfl) (by kernel_rfl)
      (OpenSpec.preRow_of_cond 8 (x := ([.nil, .lit (.int .i64 0)], [], [])) (by kernel_rfl) (by kernel_rfl) (fun k hk => by cases hk; kernel_rfl) (by kernel_rfl) (by have := P6 os #[.slice none 0 0, .int .i64 0]; rwa [MakeChecks.laidMetH_plain _ _ _ (by kernel_rfl)] at this))) ?_
  · obtain ⟨a0, a1, rfl⟩ := SH hd
    rfl
  intro W args hL hin
  obtain ⟨hT, hU⟩ := SY hL
  obtain ⟨v1, v2, rfl, ⟨⟨_, o1⟩, i1⟩, ⟨⟨_, o2⟩, i2⟩⟩ := hin.two
  obtain ⟨a1, n1, c1, rfl⟩ := okWide_slice Tryz.underlying61 o1
  obtain ⟨x, rfl⟩ := okWide_int Tryz.underlying3 o2
  obtain ⟨v, l, e1, g1, bl, wl⟩ := i1.ints Tryz.underlying61 Tryz.underlying5 (by kernel_rfl)
  rw [show Tryz.prog.bytesOf 5 = 1 from by kernel_rfl] at bl
  obtain rfl := List.singleton_inj.1 e1
  have hy : ∀ y : Int, (Lit.int .u8 y).wf = true → 0 ≤ y ∧ y < 256 := fun y h => by
    simp [Lit.wf, IntKind.min, IntKind.max, IntKind.signed, IntKind.bits] at h
    omega
  exact MN hT g1 (fun k hk => hy _ (wl _ (by rw [List.getD_eq_getElem?_getD, List.getElem?_eq_getElem hk]; exact List.getElem_mem hk))) (by omega)
theorem EO : Rows.EmacsBackUptoSaid :=
  OpenClaim.holds_of_cond 6 Tryz.f6 rfl rfl rfl rfl rfl rfl rfl ⟨rfl, rfl, rfl, rfl, rfl⟩ rfl rfl rfl rfl rfl (by kernel_rfl) Tryz.func6 (by kernel_rfl)
    (of_decide_eq_true (by kernel_rfl)) (by unfold Func.isWrapper; first | (rw [if_pos (by decide +kernel)]; kernel_rfl) | (rw [if_neg (by decide +kernel)]; exact ⟨rfl, rfl⟩))
    (fun os started H enc _ F => by rw [OpenClaim.pre_eq_preRow]; exact zV os started H enc F)
theorem emacsBack_uptoCard : Rows.EmacsBackUptoCardSaid :=
  Claim7.holds_tied_plain_at .later [] [.data, .widerDeep, .widerDeep, .pinned] true (true, "3a649fd05a10beb239464f5874ead30cfcefe355d9a30c23777230efe21a8554") false
    EO (fun _ h => by cases h) (by kernel_rfl) (fun _ h => by cases h) emacsBackUpto_row_tie rfl ⟨rfl, rfl⟩ (by kernel_rfl) rfl
    (fun f fn hf hfn => by
      obtain rfl : f = 6 := Option.some.inj ((show Tryz.prog.funcNamed "lanyard/lanyardlaw18.EmacsBack" = some 6 by kernel_rfl).symm.trans hf) |>.symm
      obtain rfl : fn = Tryz.f6 := (Option.some.inj (Tryz.func6.symm.trans hfn)).symm
      exact ⟨by kernel_rfl, fun j t ht => by
        rw [Tryz.params6] at ht
        have hm : t ∈ [61, 3] := by simpa using Array.mem_of_getElem? ht
        have hall : ([61, 3].all fun u => !Tryz.prog.wantsStandIn u) = true := by kernel_rfl
        exact (show Tryz.prog.wantsStandIn t = false by simpa using List.all_eq_true.1 hall t hm)⟩)
    (by kernel_rfl)
end Go.Proofs.YtgndbccogcofjaaGreatDoor
end
