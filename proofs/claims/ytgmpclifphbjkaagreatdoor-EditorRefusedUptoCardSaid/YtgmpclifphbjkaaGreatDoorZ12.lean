import Derived.Test.YtgmpclifphbjkaaGreatDoorZ2
import Derived.Test.YtgmpclifphbjkaaGreatDoorZ11
import Derived.Test.YtgmpclifphbjkaaGreatDoorZ5
import Derived.Lib.OthersKept
import Derived.Lib.Bytealg
import Derived.Conc.AtomicLaws2
import Derived.Test.YtgmpclifphbjkaaGreatDoorZ8
set_option linter.unusedSimpArgs false
set_option linter.unusedVariables false
/- Texts of mine, joined, their names in short: EdTwin EdA Atom Build. -/
section
namespace Go.Proofs.YtgmpclifphbjkaaGreatDoor
open Go.RowKit
open _root_.Go.Proofs.Tryz
def KO {β : Type} (f : Int → Option β) (S : List Int) : Int → Option β := fun k => if k ∈ S then f k else none
theorem Tf {β : Type} (f : Int → Option β) : KO f [] = fun _ => none := by funext k; simp [KO]
theorem Ql {β : Type} {f : Int → Option β} {S : List Int} {a : Int} {u : β} (h : f a = some u) : KO f (S ++ [a]) = upd (KO f S) a u := by
  funext k
  unfold KO upd
  by_cases hk : k = a
  · subst hk; simp [h]
  · simp [hk]
theorem Ti {β : Type} {f : Int → Option β} {S : List Int} (h : ∀ a u, f a = some u → a ∈ S) : KO f S = f := by
  funext k
  unfold KO
  split
  · rfl
  · rename_i hk
    cases hf : f k with
    | none => rfl
    | some u => exact absurd (h k u hf) hk
theorem OT (P : Int → Nat) : KL [] P = fun _ => none := by funext k; simp [KL]
theorem Tj {D : List Int} {P : Int → Nat} {a : Int} {u : Value} (h : KL D P a = some u) : a ∈ D ∧ u = .pointer (some ⟨P a, 0, none⟩) := by
  unfold KL at h
  split at h
  · rename_i hm; exact ⟨hm, by cases h; rfl⟩
  · cases h
theorem KP {S : List Int} {P : Int → Nat} {a : Int} {q : Nat} (h : a ∉ S) : KL (S ++ [a]) (qY P a q) = upd (KL S P) a (.pointer (some ⟨q, 0, none⟩)) := by
  funext k
  unfold KL upd qY
  by_cases hk : k = a
  · subst hk; simp
  · simp [hk]
theorem EX {P : Int → Nat} {U : Int → List (List eH)} {a : Int} : ∀ {S : List Int}, CZ P U (S ++ [a]) = (CZ P U S • fH (P a) (U a) [] 0)
  | [] => by show (fH (P a) (U a) [] 0 • emp) = (emp • fH (P a) (U a) [] 0); rw [rZ, kH]
  | x :: S => by
    show (fH (P x) (U x) [] 0 • CZ P U (S ++ [a])) = ((fH (P x) (U x) [] 0 • CZ P U S) • fH (P a) (U a) [] 0)
    rw [EX, bV]
theorem Hr {α : Type} {o : Option α} (h : ¬ o.isSome = true) : o = none := by cases o <;> simp_all
theorem EY {S : List Int} {a : Int} (h : S.Nodup) (ha : a ∉ S) : (S ++ [a]).Nodup := by
  rw [List.nodup_append]
  exact ⟨h, by simp, by intro x hx y hy; rw [List.mem_singleton.1 hy]; rintro rfl; exact ha hx⟩
section
variable {w0 w : World} {F : HP} {pb pr pw pt pm : Nat} {c : mD}
theorem Tn (H : aB w0 w (dJ pb c.L c.pt c.mark • bY pr c.E c.at_ • dA pw (.cells #[.int .i64 c.place, .map (some pt)] 112 (0, 0)) • fF mQ pt (mV c.tx) • rM pm c.un • F)) :
  fQ prog 44 #[.agg #[.pointer (some ⟨pb, 0, none⟩), .pointer (some ⟨pr, 0, none⟩), .pointer (some ⟨pw, 0, none⟩), .map (some pm), .int .i64 c.mode, .bool c.over, .int .i64 c.last, .int .i64 c.fr, .int .i64 c.to, .int .i64 c.res, .bool c.run]] w fun v w' =>
   ∃ qb qr qw qt qm, v = .agg #[.pointer (some ⟨qb, 0, none⟩), .pointer (some ⟨qr, 0, none⟩), .pointer (some ⟨qw, 0, none⟩), .map (some qm), .int .i64 c.mode, .bool c.over, .int .i64 c.last, .int .i64 c.fr, .int .i64 c.to, .int .i64 c.res, .bool c.run] ∧
    aB w0 w' (dJ qb c.L c.pt c.mark • bY qr c.E c.at_ • dA qw (.cells #[.int .i64 c.place, .map (some qt)] 112 (0, 0)) • fF mQ qt (mV c.tx) • rM qm c.un •
     dJ pb c.L c.pt c.mark • bY pr c.E c.at_ • dA pw (.cells #[.int .i64 c.place, .map (some pt)] 112 (0, 0)) • fF mQ pt (mV c.tx) • rM pm c.un • F) := by
 refine gX func44 ntmps44 ?_
 dsimp only [bg, Nat.reduceAdd]
 refine ay (ah (iy (iq (l := [_, _, _, _, _, _, _, _, _, _, _]) H rfl rfl) ?_))
 rintro _ w1 ⟨b1, rfl, H1⟩
 refine iy (dI (l := [_, _, _, _, _, _, _, _, _, _, _]) H1 zeroValue62 rfl) ?_
 rintro _ w2 ⟨b2, rfl, H2⟩
 refine aA (aj (ay ?_))
 have RY := H2.drew
 have vN := aB.kp (RY.f7.f7.f7.f7.f7.f7.f7)
 refine uH [1, 4] vN rfl (dP 0 rfl vN 0 underlying62 rfl sizeOf57 rfl (gQ 1 rfl vN (fun W hW => iI underlying57 rfl ((Kp.h hW).f2).get.2 rfl) (dP 3 rfl vN 1 underlying62 rfl sizeOf58 rfl (gQ 4 rfl vN (fun W hW => iI underlying58 rfl ((Kp.h hW).f2).get.2 rfl) (jH 2 rfl (rU rfl func111 (F5 RY.f3)) ?_)))))
 rintro _ w3 ⟨q3, rfl, H3⟩
 have su := aB.kp (H3.f8.f8.f8.f8.f8.f8.f8.f8)
 refine bW su (fun W hW => (Kp.h hW).right.f7.f7.f7.f7.f5.f7.f7) ?_
 refine dP 6 rfl su 0 underlying62 rfl sizeOf57 rfl (jH 5 rfl (rU rfl func72 (tC H3.f5)) ?_)
 rintro _ w4 ⟨pc4, rfl, H4⟩
 have jd := aB.kp (H4.f9.f9.f9.f9.f9.f9.f9.f9.f9)
 refine fA jd (by kernel_rfl) ?_
 refine dB 7 rfl (by kernel_rfl) (aN 0 (l' := [_, _, _, _, _, _, _, _, _, _, _]) H4.f6 sizeOf57 rfl rfl (by first | rfl | assumption) rfl rfl) ?_
 rintro _ w5 H5
 have zQ := aB.kp (H5.f9.f9.f9.f9.f9.f9.f9.f9.f9)
 refine fA zQ (by kernel_rfl) ?_
 refine dP 8 rfl zQ 1 underlying62 rfl sizeOf58 rfl ?_
 refine dB 9 rfl (by kernel_rfl) (aN 1 (l' := [_, _, _, _, _, _, _, _, _, _, _]) H5 sizeOf58 rfl rfl (by first | rfl | assumption) rfl rfl) ?_
 rintro _ w6 H6
 have vG := aB.kp (H6.f9.f9.f9.f9.f9.f9.f9.f9.f9)
 refine fA vG (by kernel_rfl) ?_
 refine mg (aj (ay (ah (aZ 2 underlying62 rfl sizeOf59 rfl (cO underlying59 rfl (H6).get.2 rfl (bH rfl (aZ 0 underlying112 rfl sizeOf3 rfl (cO underlying3 rfl (H6.f7).get.2 rfl (iy (jw (zf .i64) H6) ?_)))))))))
 rintro _ w7 ⟨b7, rfl, H7⟩
 refine aU (gq (pl := #[(0, 1), (1, 1)]) (#[_, _]) underlying112 zeroValue112 (fun w => by kernel_rfl) rfl (rfl)) (iy (iq (l := [_, _]) H7 rfl rfl) ?_)
 rintro _ w8 ⟨b8, rfl, H8⟩
 refine aV rfl (aA (aj (ay (ay (ah (aZ 2 underlying62 rfl sizeOf59 rfl (cO underlying59 rfl (H8.f3).get.2 rfl (bH rfl (aZ 1 underlying112 rfl sizeOf110 rfl (cO underlying110 rfl (H8.f9).get.2 rfl (iy (CX H8.f10 underlying110 rfl) ?_)))))))))))
 rintro _ w9 ⟨it9, mi, rfl, H9⟩
 refine aA (aj (bf ?_))
 obtain ⟨R10, XH, XI⟩ := aB.Gw (H9.f2.f3.f3)
 have HX0 := XI
 rw [← Tf (mV c.tx)] at HX0
 refine fM [(1, _), (2, _), (3, _), (30, _)] (fun (⟨S, n⟩ : List Int × Nat) => []) (fun (⟨S, n⟩ : List Int × Nat) W => aB w0 W (Bd mQ pt it9 (mV c.tx) S n • fF mQ b7 (KO (mV c.tx) S) • dA b8 (.cells #[.int .i64 c.place, .map (some b7)] 112 (0, 0)) • R10)) (fun (⟨S, n⟩ : List Int × Nat) => n) (([], _)) (Sub.cons rfl (Sub.cons rfl (Sub.cons rfl (Sub.cons rfl (Sub.nil _))))) (Sub.nil _) HX0 ?_
 rintro ⟨S, n⟩ FT HL
 dsimp only [List.cons_append, List.nil_append]
 refine ay (ah (iy (EU HL rfl) ?_))
 rintro _ w12 ⟨ox, Sx, mx, rfl, Zt, rV⟩
 refine aU (Wq rfl) (aA (aj (ay (aH rfl (fun h1 => ?_) (fun h1 => ?_)))))
 ·(try simp only [aG] at h1)
  try (exfalso; first | contradiction | omega)
  all_goals
   obtain ⟨⟨a, u⟩, rfl⟩ := Option.isSome_iff_exists.1 h1
   obtain ⟨ha, hns, hlt, rfl⟩ := Zt
   refine aS (aj (bf (ay (ah ?_))))
   refine aU (OQ (rV) (by assumption) rfl) ?_
   refine nX rfl rfl (nX rfl rfl (aV rfl (aV rfl (aA (aj (ah (aO rfl (bH rfl (aZ 1 underlying112 rfl sizeOf110 rfl (cO underlying110 rfl (rV.f3).get.2 rfl (aO rfl (aO rfl (aI (uq rV.f2 underlying110 underlying3 rfl rfl rfl) ?_)))))))))))))
   rintro _ MB vZ
   refine aA (aQ ?_)
   have hres := Ql (S := S) ha
   refine dK ((S ++ [a], mx)) ?_ ?_ ?_ ?_
   ·exact (Sub.nil _)
   ·exact (Sub.cons rfl (Sub.cons rfl (Sub.cons rfl (Sub.cons rfl (Sub.nil _)))))
   ·(try dsimp only)
    first | done | exact (by rw [hres]; exact vZ.f3.f2.f3)
   ·(try dsimp only); omega
 ·(try simp only [aG] at h1)
  try (exfalso; first | contradiction | omega)
  all_goals
   obtain rfl := Hr (o := ox) (by simp [h1])
   obtain ⟨rfl, rfl, hall⟩ := Zt
   refine fG (aX ?_)
   have HX := rV.f3.f2.f3
   rw [Ti hall] at HX
   have Tq := HX.f2
   have Tt := Tq.Hl
   subst XH
   refine aX (bM (aj (ay (ah (aO rfl (aZ 2 underlying62 rfl sizeOf59 rfl (aI (aN 2 (l' := [_, _, _, _, _, _, _, _, _, _, _]) Tt.f4 sizeOf59 rfl rfl (by first | rfl | assumption) rfl rfl) ?_)))))))
   rintro _ w16 qH
   refine aA (aj (ay (ah (iy (jw (zf .i64) qH) ?_))))
   rintro _ UN ⟨b17, rfl, Aj⟩
   refine aV rfl (aA (aj (ay (ay ?_))))
   obtain ⟨D, P, hD1, hD2, HU⟩ := (Aj.f12).Tc
   refine ah (aZ 3 underlying62 rfl sizeOf60 rfl (cO underlying60 rfl (HU.f4).get.2 rfl (iy (CX HU underlying60 rfl) ?_)))
   rintro _ UO ⟨aaM, mi, rfl, BF⟩
   refine aA (aj (bf ?_))
   obtain ⟨R19, aaN, aaO⟩ := aB.Gw (BF.f3.f3.f3)
   have HX0 := aaO
   rw [← OT P] at HX0
   refine fM [(1, _), (2, _), (6, _), (47, _)] (fun (⟨S, n, P2⟩ : List Int × Nat × (Int → Nat)) => []) (fun (⟨S, n, P2⟩ : List Int × Nat × (Int → Nat)) W => S.Nodup ∧ aB w0 W (Bd mQ pm aaM (KL D P) S n • CZ P c.un D • fF mQ b17 (KL S P2) • CZ P2 c.un S • R19)) (fun (⟨S, n, P2⟩ : List Int × Nat × (Int → Nat)) => n) (([], _, P)) (Sub.cons rfl (Sub.cons rfl (Sub.cons rfl (Sub.cons rfl (Sub.nil _))))) (Sub.nil _) ⟨List.nodup_nil, (HX0).of_eq (by show _ = (_ • _ • _ • emp • _); rw [kH])⟩ ?_
   rintro ⟨S, n, P2⟩ Vh ⟨hS, HL⟩
   dsimp only [List.cons_append, List.nil_append]
   refine ay (ah (iy (EU HL rfl) ?_))
   rintro _ Vj ⟨ox, Sx, mx, rfl, Zt, oQ⟩
   refine aU (Wq rfl) (aA (aj (ay (aH rfl (fun h2 => ?_) (fun h2 => ?_)))))
   ·(try simp only [aG] at h2)
    try (exfalso; first | contradiction | omega)
    all_goals
     obtain ⟨⟨a, u⟩, rfl⟩ := Option.isSome_iff_exists.1 h2
     obtain ⟨ha, hns, hlt, rfl⟩ := Zt
     obtain ⟨hmem, rfl⟩ := Tj ha
     have HF := oQ.f2
     rw [oN hmem] at HF
     have HF2 := HF.flat
     refine aS (aj (bf (ay (ah ?_))))
     refine aU (OQ (HF2.f3) (by assumption) rfl) ?_
     refine nX rfl rfl (nX rfl rfl (aV rfl (aV rfl (aA (aj (ah (aO rfl (aO rfl (aO rfl (dw rfl func112 (EL HF2) ?_))))))))))
     rintro _ Yr ⟨q22, rfl, DR⟩
     refine aI (uq DR.f5 underlying60 underlying3 rfl rfl rfl) ?_
     rintro _ RJ tY
     refine aA (aQ ?_)
     have HQ := tY.f2.f6.f3.f5.f5.f6
     have hu1 : CZ (qY P2 a q22) c.un (S ++ [a]) = (CZ P2 c.un S • fH q22 (c.un a) [] 0) := by
      rw [EX, eX, yU (P' := P2) (U' := c.un) fun x hx => ⟨qZ _ _ (by rintro rfl; exact hns hx), rfl⟩]
     refine dK ((S ++ [a], mx, qY P2 a q22)) ?_ ?_ ?_ ?_
     ·exact (Sub.nil _)
     ·exact (Sub.cons rfl (Sub.cons rfl (Sub.cons rfl (Sub.cons rfl (Sub.nil _)))))
     ·(try dsimp only)
      first | done | exact ⟨EY hS hns, HQ.of_eq (by rw [oN hmem, hu1, KP hns]; ac_rfl)⟩
     ·(try dsimp only); omega
   ·(try simp only [aG] at h2)
    try (exfalso; first | contradiction | omega)
    all_goals
     obtain rfl := Hr (o := ox) (by simp [h2])
     obtain ⟨rfl, rfl, hall⟩ := Zt
     refine fG (aX ?_)
     have aaP := oQ
     have aaQ := aaP.Hl
     subst aaN
     have aaR := aaQ.f2.f2
     have aaS := aB.yV hD1 hD2 aaR
     have hnS : ∀ k, k ∉ Sx → c.un k = [] := fun k hk => hD2 k fun hkD => hk (hall k _ (if_pos hkD))
     have aaT := aaS.f3.f3
     have aaU := aB.yV hS hnS aaT
     refine aX (bM (aj (ay (ah (aO rfl (aZ 3 underlying62 rfl sizeOf60 rfl (aI (aN 3 (l' := [_, _, _, _, _, _, _, _, _, _, _]) aaU.f3 sizeOf60 rfl rfl (by first | rfl | assumption) rfl rfl) ?_)))))))
     rintro _ w30 MV
     refine aA (aj (ay (ah (aU (bU underlying62 rfl sizeOf62 rfl rfl (MV).get.2) (aI (bJ 0 (l' := [_, _, _, _, _, _, _, _, _, _, _]) (us := [_, _, _, _, _, _, _, _, _, _, _]) MV.f11 sizeOf62 rfl rfl rfl (aC (by first | rfl | assumption) (aC (by first | rfl | assumption) (aC (by first | rfl | assumption) (aC (by first | rfl | assumption) (aC (by first | rfl | assumption) (aC (by first | rfl | assumption) (aC (by first | rfl | assumption) (aC (by first | rfl | assumption) (aC (by first | rfl | assumption) (aC (by first | rfl | assumption) (aC (by first | rfl | assumption) bn))))))))))) rfl rfl) ?_)))))
     rintro _ Yw IQ
     refine aA (aj (aJ ?_))
     refine oq (.inl rfl) (MO results44 rfl underlying62 rfl (by rw [show (prog.info? 62).map (·.size) = some 11 from by kernel_rfl]; rfl) (IQ).get.2) ?_
     exact ⟨_, _, _, _, _, rfl, IQ.right.right.f2.f3.f10.f8.f10.f6.f7.f8.f9.f10⟩
end
end Go.Proofs.YtgmpclifphbjkaaGreatDoor
end
section
namespace Go.Proofs.YtgmpclifphbjkaaGreatDoor
open Go.RowKit
open _root_.Go.Proofs.Tryz
def EZ (D : List Int) (P : Int → Nat) (k : Int) : Option Addr := if k ∈ D then some ⟨P k, 0, none⟩ else none
theorem OU (D : List Int) (P : Int → Nat) (k : Int) : (KL D P k).getD (.pointer none) = .pointer (EZ D P k) := by unfold KL EZ; split <;> rfl
theorem KQ {D : List Int} {P : Int → Nat} {k : Int} (h : k ∈ D) : EZ D P k = some ⟨P k, 0, none⟩ := if_pos h
theorem Qm {D : List Int} {P : Int → Nat} {k : Int} (h : (EZ D P k).isNone = false) : k ∈ D := by
  unfold EZ at h
  split at h
  · assumption
  · cases h
theorem Qn {D : List Int} {P : Int → Nat} {k : Int} (h : (EZ D P k).isNone = true) : k ∉ D := by
  unfold EZ at h
  split at h
  · cases h
  · assumption
theorem nZ {s : aY} (h : ¬ s.vT = 0) : s.inn = false ∧ s.vT = 1 := by
  unfold aY.vT at *
  cases hi : s.inn <;> simp_all
theorem lq {s : aY} (h : s.vT = 0) : s.inn = true := by
  unfold aY.vT at h
  cases hi : s.inn <;> simp_all
theorem aB.aaV {w0 w : World} {A B C F : HP} (H : aB w0 w (A • B • C • F)) : aB w0 w (A • (B • C) • F) := H.of_eq (by rw [bV])
section
variable {w0 w : World} {F : HP} {e p : Nat} {s : aY}
theorem C9 (H : aB w0 w (dD e s • F)) : fQ prog 43 #[.pointer (some ⟨e, 0, none⟩)] w fun v w' => v = .bool false ∧ w = w' := by
 refine gX func43 ntmps43 ?_
 dsimp only [bg, Nat.reduceAdd]
 refine ay (ah (aV rfl (aA (aj (ay ?_)))))
 obtain ⟨nD, nN, nO, oG, nP, nR, nS, nT, mG, lu, lC, lD, lF, lG, lH, lI, lJ, lK, lM, lN, cZ, bC, gG, dn⟩ := (H).Ak
 refine ah (aO rfl (aU (jc underlying28 rfl rfl) (jo rfl (fun h1 => ?_) (fun h1 => ?_))))
 ·(try simp only [aG] at h1)
  try (exfalso; first | contradiction | omega)
  all_goals
   refine bI (bI (bI (bI (bI (jO rfl rfl (aV rfl (aA (aj (aJ (aP (.inl rfl) results43 rfl ?_))))))))))
   exact ⟨rfl, rfl⟩
 ·(try simp only [aG] at h1)
  try (exfalso; first | contradiction | omega)
  all_goals
   refine bD (aO rfl (bD (bH rfl (bD (aZ 11 underlying66 rfl sizeOf24 rfl (bD (cO underlying24 rfl (dn).get.2 rfl (bD (aU (jc underlying24 rfl rfl) (jr rfl rfl (aV rfl (aA (aj (aJ (aP (.inl rfl) results43 rfl ?_)))))))))))))))
   exact ⟨rfl, rfl⟩
theorem gJ (H : aB w0 w (dD e s • F)) : fQ prog 51 #[.pointer (some ⟨e, 0, none⟩)] w fun v w' => v = .int .i64 s.vT ∧ w = w' := by
 unfold aY.vT
 refine gX func51 ntmps51 ?_
 dsimp only [bg, Nat.reduceAdd]
 refine ay (ah (aV rfl (aA (aj (ay (bf (ay (ah (aO rfl (dw rfl func43 (C9 H) ?_))))))))))
 rintro _ _ ⟨rfl, rfl⟩
 refine aV rfl (aA (aj (qN (ay ?_))))
 obtain ⟨nD, nN, nO, oG, nP, nR, nS, nT, mG, lu, lC, lD, lF, lG, lH, lI, lJ, lK, lM, lN, cZ, bC, gG, dn⟩ := (H).Ak
 refine ah (aO rfl (bH rfl (aZ 16 underlying66 rfl sizeOf4 rfl (cO underlying4 rfl (dn).get.2 rfl (aU (kM rfl) (aV rfl (aA (aj (aH rfl (fun h1 => ?_) (fun h1 => ?_))))))))))
 ·(try simp only [aG] at h1)
  try (exfalso; first | contradiction | omega)
  all_goals
   refine ay (ah (aV rfl (aA (aj (aJ (aW (aK (aP (.inl rfl) results51 rfl ?_))))))))
   exact ⟨by simp [*], rfl⟩
 ·(try simp only [aG] at h1)
  try (exfalso; first | contradiction | omega)
  all_goals
   refine aS (aQ (aj (ay (ah (aV rfl (aA (aj (aJ (aP (.inl rfl) results51 rfl ?_)))))))))
   exact ⟨by simp [*], rfl⟩
theorem uw {x0 x1 x4 x5 x6 x7 x8 x9 x10 x11 x12 zX x14 x15 x16 x17 x18 x19 x20 x21 zy x23 x24 x25 zA x27 x28 x29 x30 x31 x32 BH : Value} {pw pt pm : Nat} {k : Int} {U : Int → List (List eH)} (H : aB w0 w (dA e (.cells (x0 :: x1 :: .pointer (some ⟨pw, 0, none⟩) :: .map (some pm) :: x4 :: x5 :: x6 :: x7 :: x8 :: x9 :: x10 :: x11 :: x12 :: zX :: x14 :: x15 :: x16 :: x17 :: x18 :: x19 :: x20 :: x21 :: zy :: x23 :: x24 :: x25 :: zA :: x27 :: x28 :: x29 :: x30 :: x31 :: x32 :: BH :: []).toArray 66 (0, 0)) • dA pw (.cells #[.int .i64 k, .map (some pt)] 112 (0, 0)) • rM pm U • F)) : fQ prog 57 #[.pointer (some ⟨e, 0, none⟩)] w fun v w' => ∃ p, v = .pointer (some ⟨p, 0, none⟩) ∧
  aB w0 w' (fH p (U k) [] 0 • Ho pm U k p • dA e (.cells (x0 :: x1 :: .pointer (some ⟨pw, 0, none⟩) :: .map (some pm) :: x4 :: x5 :: x6 :: x7 :: x8 :: x9 :: x10 :: x11 :: x12 :: zX :: x14 :: x15 :: x16 :: x17 :: x18 :: x19 :: x20 :: x21 :: zy :: x23 :: x24 :: x25 :: zA :: x27 :: x28 :: x29 :: x30 :: x31 :: x32 :: BH :: []).toArray 66 (0, 0)) • dA pw (.cells #[.int .i64 k, .map (some pt)] 112 (0, 0)) • F) := by
 refine gX func57 ntmps57 ?_
 dsimp only [bg, Nat.reduceAdd]
 refine ay (ah (aV rfl (aA (aj (ay ?_)))))
 obtain ⟨D, P, hD1, hD2, HU⟩ := (H.f3).Tc
 have XJ := HU.drew
 have rY := aB.kp (XJ.f4.f4.f4.f4)
 refine uH [4, 9, 12, 13] rY rfl (fU 0 rfl rY rfl (iT 1 rfl rY rfl (dP 2 rfl rY 0 underlying66 rfl sizeOf62 rfl (dP 3 rfl rY 3 underlying62 rfl sizeOf60 rfl (gQ 4 rfl rY (fun W hW => iI underlying60 rfl ((Kp.h hW).f3).get.2 rfl) (fU 5 rfl rY rfl (iT 6 rfl rY rfl (dP 7 rfl rY 0 underlying66 rfl sizeOf62 rfl (dP 8 rfl rY 2 underlying62 rfl sizeOf59 rfl (gQ 9 rfl rY (fun W hW => iI underlying59 rfl ((Kp.h hW).f3).get.2 rfl) (iT 10 rfl rY rfl (dP 11 rfl rY 0 underlying112 rfl sizeOf3 rfl (gQ 12 rfl rY (fun W hW => iI underlying3 rfl ((Kp.h hW).f4).get.2 rfl) (gQ 13 rfl rY (fun W hW => QZ (KE ((Kp.h hW)) underlying60 underlying3 zeroValue116 rfl rfl) (OU D P k)) (iJ 14 rfl rY (fun _ => fO rfl) (mg (aj (ay (ay (ah (aO rfl (aU (jc underlying116 rfl rfl) (aA (aj (aH rfl (fun h1 => ?_) (fun h1 => ?_))))))))))))))))))))))))))
 ·(try simp only [aG] at h1)
  try (exfalso; first | contradiction | omega)
  all_goals
   have hnm := Qn h1
   refine ay (ah (dw rfl func126 (I7 XJ) ?_))
   rintro _ w1 ⟨p1, rfl, H1⟩
   refine aV rfl (aA (aj ?_))
   have Zu := H1.drew
   have tN := aB.kp (Zu.f5.f5.f5.f5.f5)
   refine uH [4, 9, 12] tN rfl (fU 0 rfl tN rfl (iT 1 rfl tN rfl (dP 2 rfl tN 0 underlying66 rfl sizeOf62 rfl (dP 3 rfl tN 3 underlying62 rfl sizeOf60 rfl (gQ 4 rfl tN (fun W hW => iI underlying60 rfl ((Kp.h hW).f4).get.2 rfl) (fU 5 rfl tN rfl (iT 6 rfl tN rfl (dP 7 rfl tN 0 underlying66 rfl sizeOf62 rfl (dP 8 rfl tN 2 underlying62 rfl sizeOf59 rfl (gQ 9 rfl tN (fun W hW => iI underlying59 rfl ((Kp.h hW).f4).get.2 rfl) (iT 10 rfl tN rfl (dP 11 rfl tN 0 underlying112 rfl sizeOf3 rfl (gQ 12 rfl tN (fun W hW => iI underlying3 rfl ((Kp.h hW).f5).get.2 rfl) (fU 13 rfl tN rfl ?_))))))))))))))
   refine dB 14 rfl (by kernel_rfl) (uq Zu.f2 underlying60 underlying3 rfl rfl rfl) ?_
   rintro _ w2 H2
   have Ky := aB.kp (H2.f5.f5.f5.f5.f5)
   refine fA Ky (by kernel_rfl) ?_
   refine mg (aj (ay (ah (aO rfl (aV rfl (aA (aj (aJ (aP (.inl rfl) results57 rfl ?_)))))))))
   have hu1 : CZ (qY P k p1) U (D ++ [k]) = (CZ P U D • fH p1 [] [] 0) := by
    rw [EX, eX, hD2 _ hnm, yU (P' := P) (U' := U) fun x hx => ⟨qZ _ _ (by rintro rfl; exact hnm hx), rfl⟩]
   have HM := aB.aaV H2.f5.f5.f4.f5.f5
   rw [← hu1, ← KP hnm] at HM
   have HZ := aB.Td (k := k) (EY hD1 hnm) (fun k hk => hD2 k fun hm => hk (by simp [hm])) (by simp) HM
   rw [eX] at HZ
   exact ⟨_, rfl, HZ⟩
 ·(try simp only [aG] at h1)
  try (exfalso; first | contradiction | omega)
  all_goals
   have hmem := Qm h1
   rw [KQ hmem]
   refine aS (aj (ay (ah (aO rfl (aV rfl (aA (aj (aJ (aP (.inl rfl) results57 rfl ?_)))))))))
   exact ⟨_, rfl, aB.Td hD1 hD2 hmem XJ.f4.f4.f4.f4⟩
theorem aB.Jl {b p : Nat} {k : Int} {U : Int → List (List eH)} (H : aB w0 w (Ho b U k p • fH p (U k) [] 0 • F)) : aB w0 w (rM b U • F) := by
  have := H.sN
  rwa [OI] at this
end
end Go.Proofs.YtgmpclifphbjkaaGreatDoor
end
section
namespace Go.Proofs.YtgmpclifphbjkaaGreatDoor
open Go.RowKit Go.Lib
section
variable {P : Program} {L : List (Nat × Value)} {w0 w : World} {F : HP} {ty : TypeId} {b : Nat} {v d : Int} {t : TypeId}
theorem Wu {T : Value → World → Prop} {f : FuncId} {args : List Operand} {ts : Array TypeId} {vs : List Value} {fn : Func} {e : Array Value → Sem Value} {v : Value} {w' : World} (ha : Cm L args = some vs)
    (hf : P.funcs[f]? = some fn) (hname : (fn.name == "runtime.NumGoroutine") = false) (hb : fn.body.isNone = true) (hn : Extern.findNext fn = none) (he : Extern.find fn = some e) (hr : (e vs.toArray).run P w = .ok v w') (ht : T v w') :
    tZ P L (.call ⟨.value (.func f), args.toArray, ts⟩) ty w T := pV (v := v) (w' := w') (fun ρ hρ _ _ _ _ => by
  have hg : ρ (.func f) = .func (.func f) #[] #[] := hρ _ _ rfl
  have hc := run_callFunc_extern hf hname hb hn he vs.toArray w
  rw [hr] at hc
  simp [execOp, resolve, invoke, YL hρ _ _ ha, hg, Deferred.ofValue]
  exact hc) ht
theorem NH (hc : w.cell? ⟨b, 0, none⟩ = some (.int .i64 v)) : (Extern.Atomic.loadT (.int .i64) #[.pointer (some ⟨b, 0, none⟩)]).run P w = .ok (.int .i64 v) w := by
  change Sem.run P (do Extern.Atomic.read (.int .i64) (← asAddr (.pointer (some ⟨b, 0, none⟩)))) w = _
  simp [Extern.Atomic.read, asAddr, hc, Result.andThen]
theorem Vw {f : FuncId} {args : List Operand} {ts : Array TypeId} {fn : Func} (H : aB w0 w (dA b (.cells #[.int .i64 v] t (0, 0)) • F)) (ha : Cm L args = some [.pointer (some ⟨b, 0, none⟩), .int .i64 d])
    (hf : P.funcs[f]? = some fn) (hname : (fn.name == "runtime.NumGoroutine") = false) (hb : fn.body.isNone = true) (hn : Extern.findNext fn = none) (he : Extern.find fn = some (Extern.Atomic.update (Op.intArith .add) .i64 true)) :
    tZ P L (.call ⟨.value (.func f), args.toArray, ts⟩) ty w fun u w' => u = .int .i64 (IntKind.i64.wrap (v + d)) ∧ aB w0 w' (dA b (.cells #[.int .i64 (IntKind.i64.wrap (v + d))] t (0, 0)) • F) :=
  Wu ha hf hname hb hn he (Conc.run_add_entry (fJ H.get.2 rfl) (CB H.get.2)) ⟨rfl, H.setCell (i := 0) _⟩
theorem Tv {f : FuncId} {args : List Operand} {ts : Array TypeId} {fn : Func} (H : aB w0 w (dA b (.cells #[.int .i64 v] t (0, 0)) • F)) (ha : Cm L args = some [.pointer (some ⟨b, 0, none⟩)])
    (hf : P.funcs[f]? = some fn) (hname : (fn.name == "runtime.NumGoroutine") = false) (hb : fn.body.isNone = true) (hn : Extern.findNext fn = none) (he : Extern.find fn = some (Extern.Atomic.loadT (.int .i64))) :
    tZ P L (.call ⟨.value (.func f), args.toArray, ts⟩) ty w fun u w' => u = .int .i64 v ∧ w = w' :=
  Wu ha hf hname hb hn he (NH (fJ H.get.2 rfl)) ⟨rfl, rfl⟩
theorem Bh (H : aB w0 w (dA b (.cells #[.int .i64 v] t (0, 0)) • F)) : fQ Tryz.prog 52 #[.pointer (some ⟨b, 0, none⟩), .int .i64 d] w fun u w' => u = .int .i64 (IntKind.i64.wrap (v + d)) ∧ aB w0 w' (dA b (.cells #[.int .i64 (IntKind.i64.wrap (v + d))] t (0, 0)) • F) := by
 refine gX Tryz.func52 Tryz.ntmps52 ?_
 dsimp only [bg, Nat.reduceAdd]
 refine ay (ah (aV rfl (aA (aj (ay (ah (aO rfl (bH rfl (aZ 0 Tryz.underlying102 rfl Tryz.sizeOf2 rfl (aO rfl (iy (Vw H rfl Tryz.func119 rfl rfl (by kernel_rfl) (by kernel_rfl)) ?_)))))))))))
 rintro _ w1 ⟨rfl, H1⟩
 refine aV rfl (aA (aj (aJ (aP (.inl rfl) Tryz.results52 rfl ?_))))
 exact ⟨rfl, H1⟩
theorem lT (H : aB w0 w (dA b (.cells #[.int .i64 v] t (0, 0)) • F)) : fQ Tryz.prog 56 #[.pointer (some ⟨b, 0, none⟩)] w fun u w' => u = .int .i64 v ∧ w = w' := by
 refine gX Tryz.func56 Tryz.ntmps56 ?_
 dsimp only [bg, Nat.reduceAdd]
 refine ay (ah (aV rfl (aA (aj (ay (ah (aO rfl (bH rfl (aZ 0 Tryz.underlying102 rfl Tryz.sizeOf2 rfl (iy (Tv H rfl Tryz.func125 rfl rfl (by kernel_rfl) (by kernel_rfl)) ?_))))))))))
 rintro _ _ ⟨rfl, rfl⟩
 refine aV rfl (aA (aj (aJ (aP (.inl rfl) Tryz.results56 rfl ?_))))
 exact ⟨rfl, rfl⟩
end
end Go.Proofs.YtgmpclifphbjkaaGreatDoor
end
section
namespace Go.Proofs.YtgmpclifphbjkaaGreatDoor
open Go.RowKit
inductive Cells : Nat → Nat → List (Nat × Nat) → List Value → List (Nat × Value) → List Value → Prop
  | nil {i o : Nat} : Cells i o [] [] [] []
  | one {i o : Nat} {pl : List (Nat × Nat)} {z : List Value} {vs : List (Nat × Value)} {cs : List Value} {v zv : Value} (h : v.oneCell' = true) (k : Cells (i + 1) (o + 1) pl z vs cs) : Cells i o ((o, 1) :: pl) (zv :: z) ((i, v) :: vs) (v :: cs)
  | agg {i o m : Nat} {pl : List (Nat × Nat)} {z : List Value} {vs : List (Nat × Value)} {cs us zs : List Value} (hm : us.length = m) (hz : zs.length = m) (k : Cells (i + 1) (o + m) pl z vs cs) : Cells i o ((o, m) :: pl) (zs ++ z) ((i, .agg us.toArray) :: vs) (us ++ cs)
  | zero {i o m : Nat} {pl : List (Nat × Nat)} {z : List Value} {vs : List (Nat × Value)} {cs zs : List Value} (hz : zs.length = m) (k : Cells (i + 1) (o + m) pl z vs cs) : Cells i o ((o, m) :: pl) (zs ++ z) vs (zs ++ cs)
theorem NI {v : Value} (h : v.oneCell' = true) : v.cells = #[v] := by cases v <;> simp_all [Value.cells, Value.oneCell']
theorem Ht {pl : Array (Nat × Nat)} {i o m : Nat} {v : Value} {vs : List (Nat × Value)} {pre zs us z : List Value} {R : Option (Array Value)} (hp : pl[i]? = some (o, m)) (ho : pre.length = o) (hv : v.cells = us.toArray) (hm : us.length = m) (hz : zs.length = m)
    (h : Instr.fill (fun i => pl[i]?) (pre ++ us ++ z).toArray vs = R) : Instr.fill (fun i => pl[i]?) (pre ++ (zs ++ z)).toArray ((i, v) :: vs) = R := by
  simp only [Instr.fill]
  rw [hp]
  dsimp only
  rw [hv, if_neg (by simp; omega)]
  have hfr := RZ us o 0 (pre ++ (zs ++ z)).toArray (by simp; omega)
  simp only [Nat.add_zero] at hfr
  rw [← Array.foldl_toList, Array.toList_zipIdx]
  simp only [List.toList_toArray] at hfr ⊢
  rw [show (us.zipIdx.foldl (fun cs (x : Value × Nat) => cs.setIfInBounds (o + x.2) x.1) (pre ++ (zs ++ z)).toArray) = _ from hfr]
  rw [← h]
  congr 2
  subst ho
  rw [List.take_left, ← List.append_assoc pre zs z, show pre.length + us.length = (pre ++ zs).length from by simp; omega, List.drop_left]
theorem NJ {i o : Nat} {pl : List (Nat × Nat)} {z cs : List Value} {vs : List (Nat × Value)} (h : Cells i o pl z vs cs) : ∀ {pp : List (Nat × Nat)} {pre : List Value}, pp.length = i → pre.length = o →
    Instr.fill (fun j => (pp ++ pl).toArray[j]?) (pre ++ z).toArray vs = some (pre ++ cs).toArray := by
  induction h with
  | nil => intro pp pre _ _; rfl
  | @one i o pl z vs cs v zv h k ih =>
    intro pp pre h1 h2
    refine Ht (zs := [zv]) (us := [v]) (o := o) (m := 1) (by simp [← h1]) h2 (NI h) rfl rfl ?_
    have := ih (pp := pp ++ [(o, 1)]) (pre := pre ++ [v]) (by simp; omega) (by simp; omega)
    simpa using this
  | @agg i o m pl z vs cs us zs hm hz k ih =>
    intro pp pre h1 h2
    refine Ht (zs := zs) (us := us) (o := o) (m := m) (by simp [← h1]) h2 rfl hm hz ?_
    have := ih (pp := pp ++ [(o, m)]) (pre := pre ++ us) (by simp; omega) (by simp; omega)
    simpa using this
  | @zero i o m pl z vs cs zs hz k ih =>
    intro pp pre h1 h2
    have := ih (pp := pp ++ [(o, m)]) (pre := pre ++ zs) (by simp; omega) (by simp; omega)
    simpa using this
section
variable {P : Program} {L : List (Nat × Value)} {w : World} {ty : TypeId}
theorem dV {t : TypeId} {fs : Array Field} {z : Value} {zl : List Value} {pl : List (Nat × Nat)} {ps : List (Nat × Operand)} {vs : List (Nat × Value)} {cs : List Value} (cells : List Value) (ht : P.underlying t = some (.struct fs)) (hz : ∀ w, (zeroValue t).run P w = .ok z w) (hzl : z.cells = zl.toArray)
    (hpl : ∀ w, (fs.mapM fun f => do pure (f.offset, ← sizeOf f.type) : Sem (Array (Nat × Nat))).run P w = .ok pl.toArray w) (hp : UL L ps = some vs) (hC : Cells 0 0 pl zl vs cs) (hcs : cs = cells) : Val P L (.build t ps.toArray) ty w (.agg cells.toArray) w := by
  subst hcs
  exact gq cs.toArray ht hz hpl hp (by rw [hzl]; exact NJ hC (pp := []) (pre := []) rfl rfl)
end
end Go.Proofs.YtgmpclifphbjkaaGreatDoor
end
