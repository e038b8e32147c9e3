import Derived.Test.YtddekefihgejoaaGreatDoorZ2
import Derived.Test.YtddekefihgejoaaGreatDoorZ10
import Derived.Test.YtddekefihgejoaaGreatDoorZ5
import Derived.Lib.OthersKept
import Derived.Lib.Bytealg
import Derived.Conc.AtomicLaws2
set_option linter.unusedSimpArgs false
set_option linter.unusedVariables false
/- Texts of mine, joined, their names in short: EdTwin EdA Atom Build. -/
section
namespace Go.Proofs.YtddekefihgejoaaGreatDoor
open Go.RowKit
open _root_.Go.Proofs.Tryz
def J3 {β : Type} (f : Int → Option β) (S : List Int) : Int → Option β := fun k => if k ∈ S then f k else none
theorem RS {β : Type} (f : Int → Option β) : J3 f [] = fun _ => none := by funext k; simp [J3]
theorem Px {β : Type} {f : Int → Option β} {S : List Int} {a : Int} {u : β} (h : f a = some u) : J3 f (S ++ [a]) = upd (J3 f S) a u := by
  funext k
  unfold J3 upd
  by_cases hk : k = a
  · subst hk; simp [h]
  · simp [hk]
theorem RU {β : Type} {f : Int → Option β} {S : List Int} (h : ∀ a u, f a = some u → a ∈ S) : J3 f S = f := by
  funext k
  unfold J3
  split
  · rfl
  · rename_i hk
    cases hf : f k with
    | none => rfl
    | some u => exact absurd (h k u hf) hk
theorem NW (P : Int → Nat) : JY [] P = fun _ => none := by funext k; simp [JY]
theorem RV {D : List Int} {P : Int → Nat} {a : Int} {u : Value} (h : JY D P a = some u) : a ∈ D ∧ u = .pointer (some ⟨P a, 0, none⟩) := by
  unfold JY at h
  split at h
  · rename_i hm; exact ⟨hm, by cases h; rfl⟩
  · cases h
theorem J4 {S : List Int} {P : Int → Nat} {a : Int} {q : Nat} (h : a ∉ S) : JY (S ++ [a]) (uo P a q) = upd (JY S P) a (.pointer (some ⟨q, 0, none⟩)) := by
  funext k
  unfold JY upd uo
  by_cases hk : k = a
  · subst hk; simp
  · simp [hk]
theorem Ez {P : Int → Nat} {U : Int → List (List fG)} {a : Int} : ∀ {S : List Int}, BP P U (S ++ [a]) = (BP P U S • eF (P a) (U a) [] 0)
  | [] => by show (eF (P a) (U a) [] 0 • emp) = (emp • eF (P a) (U a) [] 0); rw [nO, ji]
  | x :: S => by
    show (eF (P x) (U x) [] 0 • BP P U (S ++ [a])) = ((eF (P x) (U x) [] 0 • BP P U S) • eF (P a) (U a) [] 0)
    rw [Ez, bF]
theorem Gm {α : Type} {o : Option α} (h : ¬ o.isSome = true) : o = none := by cases o <;> simp_all
theorem EC {S : List Int} {a : Int} (h : S.Nodup) (ha : a ∉ S) : (S ++ [a]).Nodup := by
  rw [List.nodup_append]
  exact ⟨h, by simp, by intro x hx y hy; rw [List.mem_singleton.1 hy]; rintro rfl; exact ha hx⟩
section
variable {w0 w : World} {F : HP} {pb pr pw pt pm : Nat} {c : lV}
theorem RX (H : aA w0 w (dQ pb c.L c.pt c.mark • eu pr c.E c.at_ • cO pw (.cells #[.int .i64 c.place, .map (some pt)] 125 (0, 0)) • dY lI pt (lJ c.tx) • qF pm c.un • F)) :
  fQ prog 80 #[.agg #[.pointer (some ⟨pb, 0, none⟩), .pointer (some ⟨pr, 0, none⟩), .pointer (some ⟨pw, 0, none⟩), .map (some pm), .int .i64 c.mode, .bool c.over, .int .i64 c.last, .int .i64 c.fr, .int .i64 c.to, .int .i64 c.res, .bool c.run]] w fun v w' =>
   ∃ qb qr qw qt qm, v = .agg #[.pointer (some ⟨qb, 0, none⟩), .pointer (some ⟨qr, 0, none⟩), .pointer (some ⟨qw, 0, none⟩), .map (some qm), .int .i64 c.mode, .bool c.over, .int .i64 c.last, .int .i64 c.fr, .int .i64 c.to, .int .i64 c.res, .bool c.run] ∧
    aA w0 w' (dQ qb c.L c.pt c.mark • eu qr c.E c.at_ • cO qw (.cells #[.int .i64 c.place, .map (some qt)] 125 (0, 0)) • dY lI qt (lJ c.tx) • qF qm c.un •
     dQ pb c.L c.pt c.mark • eu pr c.E c.at_ • cO pw (.cells #[.int .i64 c.place, .map (some pt)] 125 (0, 0)) • dY lI pt (lJ c.tx) • qF pm c.un • F) := by
 refine iw func80 ntmps80 ?_
 dsimp only [aZ, Nat.reduceAdd]
 refine ay (ah (gB (ig (l := [_, _, _, _, _, _, _, _, _, _, _]) H rfl rfl) ?_))
 rintro _ w1 ⟨b1, rfl, H1⟩
 refine gB (bW (l := [_, _, _, _, _, _, _, _, _, _, _]) H1 zeroValue64 rfl) ?_
 rintro _ w2 ⟨b2, rfl, H2⟩
 refine aB (aj (ay ?_))
 have QI := H2.drew
 have uN := aA.kp (QI.f7.f7.f7.f7.f7.f7.f7)
 refine vJ [1, 4] uN rfl (dU 0 rfl uN 0 underlying64 rfl sizeOf59 rfl (gG 1 rfl uN (fun W hW => iF underlying59 rfl ((Kp.h hW).f2).get.2 rfl) (dU 3 rfl uN 1 underlying64 rfl sizeOf60 rfl (gG 4 rfl uN (fun W hW => iF underlying60 rfl ((Kp.h hW).f2).get.2 rfl) (jm 2 rfl (rX rfl func125 (FB QI.f3)) ?_)))))
 rintro _ w3 ⟨q3, rfl, H3⟩
 have CS := aA.kp (H3.f8.f8.f8.f8.f8.f8.f8.f8)
 refine bU CS (fun W hW => (Kp.h hW).right.f7.f7.f7.f7.f5.f7.f7) ?_
 refine dU 6 rfl CS 0 underlying64 rfl sizeOf59 rfl (jm 5 rfl (rX rfl func113 (xw H3.f5)) ?_)
 rintro _ w4 ⟨pc4, rfl, H4⟩
 have uO := aA.kp (H4.f9.f9.f9.f9.f9.f9.f9.f9.f9)
 refine dS uO (by kernel_rfl) ?_
 refine dO 7 rfl (by kernel_rfl) (aS 0 (l' := [_, _, _, _, _, _, _, _, _, _, _]) H4.f6 sizeOf59 rfl rfl (by first | rfl | assumption) rfl rfl) ?_
 rintro _ w5 H5
 have sN := aA.kp (H5.f9.f9.f9.f9.f9.f9.f9.f9.f9)
 refine dS sN (by kernel_rfl) ?_
 refine dU 8 rfl sN 1 underlying64 rfl sizeOf60 rfl ?_
 refine dO 9 rfl (by kernel_rfl) (aS 1 (l' := [_, _, _, _, _, _, _, _, _, _, _]) H5 sizeOf60 rfl rfl (by first | rfl | assumption) rfl rfl) ?_
 rintro _ w6 H6
 have zY := aA.kp (H6.f9.f9.f9.f9.f9.f9.f9.f9.f9)
 refine dS zY (by kernel_rfl) ?_
 refine mD (aj (ay (ah (bf 2 underlying64 rfl sizeOf61 rfl (dA underlying61 rfl (H6).get.2 rfl (bT rfl (bf 0 underlying125 rfl sizeOf3 rfl (dA underlying3 rfl (H6.f7).get.2 rfl (gB (iY (yt .i64) H6) ?_)))))))))
 rintro _ w7 ⟨b7, rfl, H7⟩
 refine aU (fJ (pl := #[(0, 1), (1, 1)]) (#[_, _]) underlying125 zeroValue125 (fun w => by kernel_rfl) rfl (rfl)) (gB (ig (l := [_, _]) H7 rfl rfl) ?_)
 rintro _ w8 ⟨b8, rfl, H8⟩
 refine aW rfl (aB (aj (ay (ay (ah (bf 2 underlying64 rfl sizeOf61 rfl (dA underlying61 rfl (H8.f3).get.2 rfl (bT rfl (bf 1 underlying125 rfl sizeOf123 rfl (dA underlying123 rfl (H8.f9).get.2 rfl (gB (BN H8.f10 underlying123 rfl) ?_)))))))))))
 rintro _ w9 ⟨it9, mi, rfl, H9⟩
 refine aB (aj (aY ?_))
 obtain ⟨R10, aaB, aaC⟩ := aA.Dx (H9.f2.f3.f3)
 have HX0 := aaC
 rw [← RS (lJ c.tx)] at HX0
 refine eP [(1, _), (2, _), (3, _), (30, _)] (fun (⟨S, n⟩ : List Int × Nat) => []) (fun (⟨S, n⟩ : List Int × Nat) W => aA w0 W (zV lI pt it9 (lJ c.tx) S n • dY lI b7 (J3 (lJ c.tx) S) • cO b8 (.cells #[.int .i64 c.place, .map (some b7)] 125 (0, 0)) • R10)) (fun (⟨S, n⟩ : List Int × Nat) => n) (([], _)) (Sub.cons rfl (Sub.cons rfl (Sub.cons rfl (Sub.cons rfl (Sub.nil _))))) (Sub.nil _) HX0 ?_
 rintro ⟨S, n⟩ IV HL
 dsimp only [List.cons_append, List.nil_append]
 refine ay (ah (gB (Eu HL rfl) ?_))
 rintro _ w12 ⟨ox, Sx, mx, rfl, YL, vM⟩
 refine aU (VD rfl) (aB (aj (ay (aO rfl (fun h1 => ?_) (fun h1 => ?_)))))
 ·(try simp only [aG] at h1)
  try (exfalso; first | contradiction | omega)
  all_goals
   obtain ⟨⟨a, u⟩, rfl⟩ := Option.isSome_iff_exists.1 h1
   obtain ⟨ha, hns, hlt, rfl⟩ := YL
   refine aQ (aj (aY (ay (ah ?_))))
   refine aU (NV (vM) (by assumption) rfl) ?_
   refine wQ rfl rfl (wQ rfl rfl (aW rfl (aW rfl (aB (aj (ah (aP rfl (bT rfl (bf 1 underlying125 rfl sizeOf123 rfl (dA underlying123 rfl (vM.f3).get.2 rfl (aP rfl (aP rfl (aI (tV vM.f2 underlying123 underlying3 rfl rfl rfl) ?_)))))))))))))
   rintro _ OY xq
   refine aB (aH ?_)
   have hres := Px (S := S) ha
   refine bZ ((S ++ [a], mx)) ?_ ?_ ?_ ?_
   ·exact (Sub.nil _)
   ·exact (Sub.cons rfl (Sub.cons rfl (Sub.cons rfl (Sub.cons rfl (Sub.nil _)))))
   ·(try dsimp only)
    first | done | exact (by rw [hres]; exact xq.f3.f2.f3)
   ·(try dsimp only); omega
 ·(try simp only [aG] at h1)
  try (exfalso; first | contradiction | omega)
  all_goals
   obtain rfl := Gm (o := ox) (by simp [h1])
   obtain ⟨rfl, rfl, hall⟩ := YL
   refine dK (aV ?_)
   have HX := vM.f3.f2.f3
   rw [RU hall] at HX
   have RY := HX.f2
   have RZ := RY.Gj
   subst aaB
   refine aV (bD (aj (ay (ah (aP rfl (bf 2 underlying64 rfl sizeOf61 rfl (aI (aS 2 (l' := [_, _, _, _, _, _, _, _, _, _, _]) RZ.f4 sizeOf61 rfl rfl (by first | rfl | assumption) rfl rfl) ?_)))))))
   rintro _ w16 sW
   refine aB (aj (ay (ah (gB (iY (yt .i64) sW) ?_))))
   rintro _ UA ⟨b17, rfl, zf⟩
   refine aW rfl (aB (aj (ay (ay ?_))))
   obtain ⟨D, P, hD1, hD2, HU⟩ := (zf.f12).RP
   refine ah (bf 3 underlying64 rfl sizeOf62 rfl (dA underlying62 rfl (HU.f4).get.2 rfl (gB (BN HU underlying62 rfl) ?_)))
   rintro _ TR ⟨aaD, mi, rfl, Au⟩
   refine aB (aj (aY ?_))
   obtain ⟨R19, aaE, aaF⟩ := aA.Dx (Au.f3.f3.f3)
   have HX0 := aaF
   rw [← NW P] at HX0
   refine eP [(1, _), (2, _), (6, _), (47, _)] (fun (⟨S, n, P2⟩ : List Int × Nat × (Int → Nat)) => []) (fun (⟨S, n, P2⟩ : List Int × Nat × (Int → Nat)) W => S.Nodup ∧ aA w0 W (zV lI pm aaD (JY D P) S n • BP P c.un D • dY lI b17 (JY S P2) • BP P2 c.un S • R19)) (fun (⟨S, n, P2⟩ : List Int × Nat × (Int → Nat)) => n) (([], _, P)) (Sub.cons rfl (Sub.cons rfl (Sub.cons rfl (Sub.cons rfl (Sub.nil _))))) (Sub.nil _) ⟨List.nodup_nil, (HX0).of_eq (by show _ = (_ • _ • _ • emp • _); rw [ji])⟩ ?_
   rintro ⟨S, n, P2⟩ QW ⟨hS, HL⟩
   dsimp only [List.cons_append, List.nil_append]
   refine ay (ah (gB (Eu HL rfl) ?_))
   rintro _ TT ⟨ox, Sx, mx, rfl, YL, oW⟩
   refine aU (VD rfl) (aB (aj (ay (aO rfl (fun h2 => ?_) (fun h2 => ?_)))))
   ·(try simp only [aG] at h2)
    try (exfalso; first | contradiction | omega)
    all_goals
     obtain ⟨⟨a, u⟩, rfl⟩ := Option.isSome_iff_exists.1 h2
     obtain ⟨ha, hns, hlt, rfl⟩ := YL
     obtain ⟨hmem, rfl⟩ := RV ha
     have HF := oW.f2
     rw [mV hmem] at HF
     have HF2 := HF.flat
     refine aQ (aj (aY (ay (ah ?_))))
     refine aU (NV (HF2.f3) (by assumption) rfl) ?_
     refine wQ rfl rfl (wQ rfl rfl (aW rfl (aW rfl (aB (aj (ah (aP rfl (aP rfl (aP rfl (dD rfl func126 (Ep HF2) ?_))))))))))
     rintro _ XC ⟨q22, rfl, IW⟩
     refine aI (tV IW.f5 underlying62 underlying3 rfl rfl rfl) ?_
     rintro _ Qh vN
     refine aB (aH ?_)
     have HQ := vN.f2.f6.f3.f5.f5.f6
     have hu1 : BP (uo P2 a q22) c.un (S ++ [a]) = (BP P2 c.un S • eF q22 (c.un a) [] 0) := by
      rw [Ez, iL, xY (P' := P2) (U' := c.un) fun x hx => ⟨sO _ _ (by rintro rfl; exact hns hx), rfl⟩]
     refine bZ ((S ++ [a], mx, uo P2 a q22)) ?_ ?_ ?_ ?_
     ·exact (Sub.nil _)
     ·exact (Sub.cons rfl (Sub.cons rfl (Sub.cons rfl (Sub.cons rfl (Sub.nil _)))))
     ·(try dsimp only)
      first | done | exact ⟨EC hS hns, HQ.of_eq (by rw [mV hmem, hu1, J4 hns]; ac_rfl)⟩
     ·(try dsimp only); omega
   ·(try simp only [aG] at h2)
    try (exfalso; first | contradiction | omega)
    all_goals
     obtain rfl := Gm (o := ox) (by simp [h2])
     obtain ⟨rfl, rfl, hall⟩ := YL
     refine dK (aV ?_)
     have WM := oW
     have WO := WM.Gj
     subst aaE
     have WR := WO.f2.f2
     have WS := aA.xZ hD1 hD2 WR
     have hnS : ∀ k, k ∉ Sx → c.un k = [] := fun k hk => hD2 k fun hkD => hk (hall k _ (if_pos hkD))
     have aaG := WS.f3.f3
     have aaH := aA.xZ hS hnS aaG
     refine aV (bD (aj (ay (ah (aP rfl (bf 3 underlying64 rfl sizeOf62 rfl (aI (aS 3 (l' := [_, _, _, _, _, _, _, _, _, _, _]) aaH.f3 sizeOf62 rfl rfl (by first | rfl | assumption) rfl rfl) ?_)))))))
     rintro _ Yf Hf
     refine aB (aj (ay (ah (aU (bQ underlying64 rfl sizeOf64 rfl rfl (Hf).get.2) (aI (bC 0 (l' := [_, _, _, _, _, _, _, _, _, _, _]) (us := [_, _, _, _, _, _, _, _, _, _, _]) Hf.f11 sizeOf64 rfl rfl rfl (aC (by first | rfl | assumption) (aC (by first | rfl | assumption) (aC (by first | rfl | assumption) (aC (by first | rfl | assumption) (aC (by first | rfl | assumption) (aC (by first | rfl | assumption) (aC (by first | rfl | assumption) (aC (by first | rfl | assumption) (aC (by first | rfl | assumption) (aC (by first | rfl | assumption) (aC (by first | rfl | assumption) bg))))))))))) rfl rfl) ?_)))))
     rintro _ XD Lc
     refine aB (aj (aN ?_))
     refine kM (.inl rfl) (Fq results80 rfl underlying64 rfl (by rw [show (prog.info? 64).map (·.size) = some 11 from by kernel_rfl]; rfl) (Lc).get.2) ?_
     exact ⟨_, _, _, _, _, rfl, Lc.right.right.f2.f3.f10.f8.f10.f6.f7.f8.f9.f10⟩
end
end Go.Proofs.YtddekefihgejoaaGreatDoor
end
section
namespace Go.Proofs.YtddekefihgejoaaGreatDoor
open Go.RowKit
open _root_.Go.Proofs.Tryz
def ED (D : List Int) (P : Int → Nat) (k : Int) : Option Addr := if k ∈ D then some ⟨P k, 0, none⟩ else none
theorem NY (D : List Int) (P : Int → Nat) (k : Int) : (JY D P k).getD (.pointer none) = .pointer (ED D P k) := by unfold JY ED; split <;> rfl
theorem J5 {D : List Int} {P : Int → Nat} {k : Int} (h : k ∈ D) : ED D P k = some ⟨P k, 0, none⟩ := if_pos h
theorem Py {D : List Int} {P : Int → Nat} {k : Int} (h : (ED D P k).isNone = false) : k ∈ D := by
  unfold ED at h
  split at h
  · assumption
  · cases h
theorem Pz {D : List Int} {P : Int → Nat} {k : Int} (h : (ED D P k).isNone = true) : k ∉ D := by
  unfold ED at h
  split at h
  · cases h
  · assumption
theorem Dt {s : bH} (h : ¬ s.uU = 0) : s.inn = false ∧ s.uU = 1 := by
  unfold bH.uU at *
  cases hi : s.inn <;> simp_all
theorem zZ {s : bH} (h : s.uU = 0) : s.inn = true := by
  unfold bH.uU at h
  cases hi : s.inn <;> simp_all
theorem aA.aaI {w0 w : World} {A B C F : HP} (H : aA w0 w (A • B • C • F)) : aA w0 w (A • (B • C) • F) := H.of_eq (by rw [bF])
section
variable {w0 w : World} {F : HP} {e p : Nat} {s : bH}
theorem qo (H : aA w0 w (dN e s • F)) : fQ prog 54 #[.pointer (some ⟨e, 0, none⟩)] w fun v w' => v = .bool false ∧ w = w' := by
 refine iw func54 ntmps54 ?_
 dsimp only [aZ, Nat.reduceAdd]
 refine ay (ah (aW rfl (aB (aj (ay ?_)))))
 obtain ⟨qZ, ru, rC, rD, rE, rF, rG, rH, oL, mZ, ng, ni, ny, nC, nD, nG, nH, nI, nJ, nK, dL, bM, iC, eU⟩ := (H).Ey
 refine ah (aP rfl (aU (fO underlying30 rfl rfl) (jL rfl (fun h1 => ?_) (fun h1 => ?_))))
 ·(try simp only [aG] at h1)
  try (exfalso; first | contradiction | omega)
  all_goals
   refine bK (bK (bK (bK (bK (jP rfl rfl (aW rfl (aB (aj (aN (aT (.inl rfl) results54 rfl ?_))))))))))
   exact ⟨rfl, rfl⟩
 ·(try simp only [aG] at h1)
  try (exfalso; first | contradiction | omega)
  all_goals
   refine bn (aP rfl (bn (bT rfl (bn (bf 11 underlying69 rfl sizeOf65 rfl (bn (dA underlying65 rfl (eU).get.2 rfl (bn (aU (fO underlying65 rfl rfl) (jd rfl rfl (aW rfl (aB (aj (aN (aT (.inl rfl) results54 rfl ?_)))))))))))))))
   exact ⟨rfl, rfl⟩
theorem lq (H : aA w0 w (dN e s • F)) : fQ prog 81 #[.pointer (some ⟨e, 0, none⟩)] w fun v w' => v = .int .i64 s.uU ∧ w = w' := by
 unfold bH.uU
 refine iw func81 ntmps81 ?_
 dsimp only [aZ, Nat.reduceAdd]
 refine ay (ah (aW rfl (aB (aj (ay (aY (ay (ah (aP rfl (dD rfl func54 (qo H) ?_))))))))))
 rintro _ _ ⟨rfl, rfl⟩
 refine aW rfl (aB (aj (pW (ay ?_))))
 obtain ⟨qZ, ru, rC, rD, rE, rF, rG, rH, oL, mZ, ng, ni, ny, nC, nD, nG, nH, nI, nJ, nK, dL, bM, iC, eU⟩ := (H).Ey
 refine ah (aP rfl (bT rfl (bf 16 underlying69 rfl sizeOf4 rfl (dA underlying4 rfl (eU).get.2 rfl (aU (jT rfl) (aW rfl (aB (aj (aO rfl (fun h1 => ?_) (fun h1 => ?_))))))))))
 ·(try simp only [aG] at h1)
  try (exfalso; first | contradiction | omega)
  all_goals
   refine ay (ah (aW rfl (aB (aj (aN (aX (aK (aT (.inl rfl) results81 rfl ?_))))))))
   exact ⟨by simp [*], rfl⟩
 ·(try simp only [aG] at h1)
  try (exfalso; first | contradiction | omega)
  all_goals
   refine aQ (aH (aj (ay (ah (aW rfl (aB (aj (aN (aT (.inl rfl) results81 rfl ?_)))))))))
   exact ⟨by simp [*], rfl⟩
theorem xE {x0 x1 x4 x5 x6 x7 x8 x9 x10 x11 x12 Aa x14 x15 x16 x17 x18 x19 x20 x21 zi x23 x24 x25 zk x27 x28 x29 x30 x31 x32 BQ : Value} {pw pt pm : Nat} {k : Int} {U : Int → List (List fG)} (H : aA w0 w (cO e (.cells (x0 :: x1 :: .pointer (some ⟨pw, 0, none⟩) :: .map (some pm) :: x4 :: x5 :: x6 :: x7 :: x8 :: x9 :: x10 :: x11 :: x12 :: Aa :: x14 :: x15 :: x16 :: x17 :: x18 :: x19 :: x20 :: x21 :: zi :: x23 :: x24 :: x25 :: zk :: x27 :: x28 :: x29 :: x30 :: x31 :: x32 :: BQ :: []).toArray 69 (0, 0)) • cO pw (.cells #[.int .i64 k, .map (some pt)] 125 (0, 0)) • qF pm U • F)) : fQ prog 128 #[.pointer (some ⟨e, 0, none⟩)] w fun v w' => ∃ p, v = .pointer (some ⟨p, 0, none⟩) ∧
  aA w0 w' (eF p (U k) [] 0 • Gl pm U k p • cO e (.cells (x0 :: x1 :: .pointer (some ⟨pw, 0, none⟩) :: .map (some pm) :: x4 :: x5 :: x6 :: x7 :: x8 :: x9 :: x10 :: x11 :: x12 :: Aa :: x14 :: x15 :: x16 :: x17 :: x18 :: x19 :: x20 :: x21 :: zi :: x23 :: x24 :: x25 :: zk :: x27 :: x28 :: x29 :: x30 :: x31 :: x32 :: BQ :: []).toArray 69 (0, 0)) • cO pw (.cells #[.int .i64 k, .map (some pt)] 125 (0, 0)) • F) := by
 refine iw func128 ntmps128 ?_
 dsimp only [aZ, Nat.reduceAdd]
 refine ay (ah (aW rfl (aB (aj (ay ?_)))))
 obtain ⟨D, P, hD1, hD2, HU⟩ := (H.f3).RP
 have WT := HU.drew
 have qP := aA.kp (WT.f4.f4.f4.f4)
 refine vJ [4, 9, 12, 13] qP rfl (fU 0 rfl qP rfl (iZ 1 rfl qP rfl (dU 2 rfl qP 0 underlying69 rfl sizeOf64 rfl (dU 3 rfl qP 3 underlying64 rfl sizeOf62 rfl (gG 4 rfl qP (fun W hW => iF underlying62 rfl ((Kp.h hW).f3).get.2 rfl) (fU 5 rfl qP rfl (iZ 6 rfl qP rfl (dU 7 rfl qP 0 underlying69 rfl sizeOf64 rfl (dU 8 rfl qP 2 underlying64 rfl sizeOf61 rfl (gG 9 rfl qP (fun W hW => iF underlying61 rfl ((Kp.h hW).f3).get.2 rfl) (iZ 10 rfl qP rfl (dU 11 rfl qP 0 underlying125 rfl sizeOf3 rfl (gG 12 rfl qP (fun W hW => iF underlying3 rfl ((Kp.h hW).f4).get.2 rfl) (gG 13 rfl qP (fun W hW => XQ (JQ ((Kp.h hW)) underlying62 underlying3 zeroValue187 rfl rfl) (NY D P k)) (gZ 14 rfl qP (fun _ => eX rfl) (mD (aj (ay (ay (ah (aP rfl (aU (fO underlying187 rfl rfl) (aB (aj (aO rfl (fun h1 => ?_) (fun h1 => ?_))))))))))))))))))))))))))
 ·(try simp only [aG] at h1)
  try (exfalso; first | contradiction | omega)
  all_goals
   have hnm := Pz h1
   refine ay (ah (dD rfl func163 (Hu WT) ?_))
   rintro _ w1 ⟨p1, rfl, H1⟩
   refine aW rfl (aB (aj ?_))
   have YM := H1.drew
   have sU := aA.kp (YM.f5.f5.f5.f5.f5)
   refine vJ [4, 9, 12] sU rfl (fU 0 rfl sU rfl (iZ 1 rfl sU rfl (dU 2 rfl sU 0 underlying69 rfl sizeOf64 rfl (dU 3 rfl sU 3 underlying64 rfl sizeOf62 rfl (gG 4 rfl sU (fun W hW => iF underlying62 rfl ((Kp.h hW).f4).get.2 rfl) (fU 5 rfl sU rfl (iZ 6 rfl sU rfl (dU 7 rfl sU 0 underlying69 rfl sizeOf64 rfl (dU 8 rfl sU 2 underlying64 rfl sizeOf61 rfl (gG 9 rfl sU (fun W hW => iF underlying61 rfl ((Kp.h hW).f4).get.2 rfl) (iZ 10 rfl sU rfl (dU 11 rfl sU 0 underlying125 rfl sizeOf3 rfl (gG 12 rfl sU (fun W hW => iF underlying3 rfl ((Kp.h hW).f5).get.2 rfl) (fU 13 rfl sU rfl ?_))))))))))))))
   refine dO 14 rfl (by kernel_rfl) (tV YM.f2 underlying62 underlying3 rfl rfl rfl) ?_
   rintro _ w2 H2
   have zQ := aA.kp (H2.f5.f5.f5.f5.f5)
   refine dS zQ (by kernel_rfl) ?_
   refine mD (aj (ay (ah (aP rfl (aW rfl (aB (aj (aN (aT (.inl rfl) results128 rfl ?_)))))))))
   have hu1 : BP (uo P k p1) U (D ++ [k]) = (BP P U D • eF p1 [] [] 0) := by
    rw [Ez, iL, hD2 _ hnm, xY (P' := P) (U' := U) fun x hx => ⟨sO _ _ (by rintro rfl; exact hnm hx), rfl⟩]
   have HM := aA.aaI H2.f5.f5.f4.f5.f5
   rw [← hu1, ← J4 hnm] at HM
   have HZ := aA.RQ (k := k) (EC hD1 hnm) (fun k hk => hD2 k fun hm => hk (by simp [hm])) (by simp) HM
   rw [iL] at HZ
   exact ⟨_, rfl, HZ⟩
 ·(try simp only [aG] at h1)
  try (exfalso; first | contradiction | omega)
  all_goals
   have hmem := Py h1
   rw [J5 hmem]
   refine aQ (aj (ay (ah (aP rfl (aW rfl (aB (aj (aN (aT (.inl rfl) results128 rfl ?_)))))))))
   exact ⟨_, rfl, aA.RQ hD1 hD2 hmem WT.f4.f4.f4.f4⟩
theorem aA.Ij {b p : Nat} {k : Int} {U : Int → List (List fG)} (H : aA w0 w (Gl b U k p • eF p (U k) [] 0 • F)) : aA w0 w (qF b U • F) := by
  have := H.uX
  rwa [UJ] at this
end
end Go.Proofs.YtddekefihgejoaaGreatDoor
end
section
namespace Go.Proofs.YtddekefihgejoaaGreatDoor
open Go.RowKit Go.Lib
section
variable {P : Program} {L : List (Nat × Value)} {w0 w : World} {F : HP} {ty : TypeId} {b : Nat} {v d : Int} {t : TypeId}
theorem VF {T : Value → World → Prop} {f : FuncId} {args : List Operand} {ts : Array TypeId} {vs : List Value} {fn : Func} {e : Array Value → Sem Value} {v : Value} {w' : World} (ha : Ap L args = some vs)
    (hf : P.funcs[f]? = some fn) (hname : (fn.name == "runtime.NumGoroutine") = false) (hb : fn.body.isNone = true) (hn : Extern.findNext fn = none) (he : Extern.find fn = some e) (hr : (e vs.toArray).run P w = .ok v w') (ht : T v w') :
    rU P L (.call ⟨.value (.func f), args.toArray, ts⟩) ty w T := nR (v := v) (w' := w') (fun ρ hρ _ _ _ _ => by
  have hg : ρ (.func f) = .func (.func f) #[] #[] := hρ _ _ rfl
  have hc := run_callFunc_extern hf hname hb hn he vs.toArray w
  rw [hr] at hc
  simp [execOp, resolve, invoke, Xw hρ _ _ ha, hg, Deferred.ofValue]
  exact hc) ht
theorem MC (hc : w.cell? ⟨b, 0, none⟩ = some (.int .i64 v)) : (Extern.Atomic.loadT (.int .i64) #[.pointer (some ⟨b, 0, none⟩)]).run P w = .ok (.int .i64 v) w := by
  change Sem.run P (do Extern.Atomic.read (.int .i64) (← asAddr (.pointer (some ⟨b, 0, none⟩)))) w = _
  simp [Extern.Atomic.read, asAddr, hc, Result.andThen]
theorem UM {f : FuncId} {args : List Operand} {ts : Array TypeId} {fn : Func} (H : aA w0 w (cO b (.cells #[.int .i64 v] t (0, 0)) • F)) (ha : Ap L args = some [.pointer (some ⟨b, 0, none⟩), .int .i64 d])
    (hf : P.funcs[f]? = some fn) (hname : (fn.name == "runtime.NumGoroutine") = false) (hb : fn.body.isNone = true) (hn : Extern.findNext fn = none) (he : Extern.find fn = some (Extern.Atomic.update (Op.intArith .add) .i64 true)) :
    rU P L (.call ⟨.value (.func f), args.toArray, ts⟩) ty w fun u w' => u = .int .i64 (IntKind.i64.wrap (v + d)) ∧ aA w0 w' (cO b (.cells #[.int .i64 (IntKind.i64.wrap (v + d))] t (0, 0)) • F) :=
  VF ha hf hname hb hn he (Conc.run_add_entry (dH H.get.2 rfl) (BA H.get.2)) ⟨rfl, H.setCell (i := 0) _⟩
theorem Si {f : FuncId} {args : List Operand} {ts : Array TypeId} {fn : Func} (H : aA w0 w (cO b (.cells #[.int .i64 v] t (0, 0)) • F)) (ha : Ap L args = some [.pointer (some ⟨b, 0, none⟩)])
    (hf : P.funcs[f]? = some fn) (hname : (fn.name == "runtime.NumGoroutine") = false) (hb : fn.body.isNone = true) (hn : Extern.findNext fn = none) (he : Extern.find fn = some (Extern.Atomic.loadT (.int .i64))) :
    rU P L (.call ⟨.value (.func f), args.toArray, ts⟩) ty w fun u w' => u = .int .i64 v ∧ w = w' :=
  VF ha hf hname hb hn he (MC (dH H.get.2 rfl)) ⟨rfl, rfl⟩
theorem Ac (H : aA w0 w (cO b (.cells #[.int .i64 v] t (0, 0)) • F)) : fQ Tryz.prog 82 #[.pointer (some ⟨b, 0, none⟩), .int .i64 d] w fun u w' => u = .int .i64 (IntKind.i64.wrap (v + d)) ∧ aA w0 w' (cO b (.cells #[.int .i64 (IntKind.i64.wrap (v + d))] t (0, 0)) • F) := by
 refine iw Tryz.func82 Tryz.ntmps82 ?_
 dsimp only [aZ, Nat.reduceAdd]
 refine ay (ah (aW rfl (aB (aj (ay (ah (aP rfl (bT rfl (bf 0 Tryz.underlying144 rfl Tryz.sizeOf2 rfl (aP rfl (gB (UM H rfl Tryz.func127 rfl rfl (by kernel_rfl) (by kernel_rfl)) ?_)))))))))))
 rintro _ w1 ⟨rfl, H1⟩
 refine aW rfl (aB (aj (aN (aT (.inl rfl) Tryz.results82 rfl ?_))))
 exact ⟨rfl, H1⟩
theorem kK (H : aA w0 w (cO b (.cells #[.int .i64 v] t (0, 0)) • F)) : fQ Tryz.prog 58 #[.pointer (some ⟨b, 0, none⟩)] w fun u w' => u = .int .i64 v ∧ w = w' := by
 refine iw Tryz.func58 Tryz.ntmps58 ?_
 dsimp only [aZ, Nat.reduceAdd]
 refine ay (ah (aW rfl (aB (aj (ay (ah (aP rfl (bT rfl (bf 0 Tryz.underlying144 rfl Tryz.sizeOf2 rfl (gB (Si H rfl Tryz.func118 rfl rfl (by kernel_rfl) (by kernel_rfl)) ?_))))))))))
 rintro _ _ ⟨rfl, rfl⟩
 refine aW rfl (aB (aj (aN (aT (.inl rfl) Tryz.results58 rfl ?_))))
 exact ⟨rfl, rfl⟩
end
end Go.Proofs.YtddekefihgejoaaGreatDoor
end
section
namespace Go.Proofs.YtddekefihgejoaaGreatDoor
open Go.RowKit
inductive Cells : Nat → Nat → List (Nat × Nat) → List Value → List (Nat × Value) → List Value → Prop
  | nil {i o : Nat} : Cells i o [] [] [] []
  | one {i o : Nat} {pl : List (Nat × Nat)} {z : List Value} {vs : List (Nat × Value)} {cs : List Value} {v zv : Value} (h : v.oneCell' = true) (k : Cells (i + 1) (o + 1) pl z vs cs) : Cells i o ((o, 1) :: pl) (zv :: z) ((i, v) :: vs) (v :: cs)
  | agg {i o m : Nat} {pl : List (Nat × Nat)} {z : List Value} {vs : List (Nat × Value)} {cs us zs : List Value} (hm : us.length = m) (hz : zs.length = m) (k : Cells (i + 1) (o + m) pl z vs cs) : Cells i o ((o, m) :: pl) (zs ++ z) ((i, .agg us.toArray) :: vs) (us ++ cs)
  | zero {i o m : Nat} {pl : List (Nat × Nat)} {z : List Value} {vs : List (Nat × Value)} {cs zs : List Value} (hz : zs.length = m) (k : Cells (i + 1) (o + m) pl z vs cs) : Cells i o ((o, m) :: pl) (zs ++ z) vs (zs ++ cs)
theorem MF {v : Value} (h : v.oneCell' = true) : v.cells = #[v] := by cases v <;> simp_all [Value.cells, Value.oneCell']
theorem Gn {pl : Array (Nat × Nat)} {i o m : Nat} {v : Value} {vs : List (Nat × Value)} {pre zs us z : List Value} {R : Option (Array Value)} (hp : pl[i]? = some (o, m)) (ho : pre.length = o) (hv : v.cells = us.toArray) (hm : us.length = m) (hz : zs.length = m)
    (h : Instr.fill (fun i => pl[i]?) (pre ++ us ++ z).toArray vs = R) : Instr.fill (fun i => pl[i]?) (pre ++ (zs ++ z)).toArray ((i, v) :: vs) = R := by
  simp only [Instr.fill]
  rw [hp]
  dsimp only
  rw [hv, if_neg (by simp; omega)]
  have hfr := D5 us o 0 (pre ++ (zs ++ z)).toArray (by simp; omega)
  simp only [Nat.add_zero] at hfr
  rw [← Array.foldl_toList, Array.toList_zipIdx]
  simp only [List.toList_toArray] at hfr ⊢
  rw [show (us.zipIdx.foldl (fun cs (x : Value × Nat) => cs.setIfInBounds (o + x.2) x.1) (pre ++ (zs ++ z)).toArray) = _ from hfr]
  rw [← h]
  congr 2
  subst ho
  rw [List.take_left, ← List.append_assoc pre zs z, show pre.length + us.length = (pre ++ zs).length from by simp; omega, List.drop_left]
theorem MG {i o : Nat} {pl : List (Nat × Nat)} {z cs : List Value} {vs : List (Nat × Value)} (h : Cells i o pl z vs cs) : ∀ {pp : List (Nat × Nat)} {pre : List Value}, pp.length = i → pre.length = o →
    Instr.fill (fun j => (pp ++ pl).toArray[j]?) (pre ++ z).toArray vs = some (pre ++ cs).toArray := by
  induction h with
  | nil => intro pp pre _ _; rfl
  | @one i o pl z vs cs v zv h k ih =>
    intro pp pre h1 h2
    refine Gn (zs := [zv]) (us := [v]) (o := o) (m := 1) (by simp [← h1]) h2 (MF h) rfl rfl ?_
    have := ih (pp := pp ++ [(o, 1)]) (pre := pre ++ [v]) (by simp; omega) (by simp; omega)
    simpa using this
  | @agg i o m pl z vs cs us zs hm hz k ih =>
    intro pp pre h1 h2
    refine Gn (zs := zs) (us := us) (o := o) (m := m) (by simp [← h1]) h2 rfl hm hz ?_
    have := ih (pp := pp ++ [(o, m)]) (pre := pre ++ us) (by simp; omega) (by simp; omega)
    simpa using this
  | @zero i o m pl z vs cs zs hz k ih =>
    intro pp pre h1 h2
    have := ih (pp := pp ++ [(o, m)]) (pre := pre ++ zs) (by simp; omega) (by simp; omega)
    simpa using this
section
variable {P : Program} {L : List (Nat × Value)} {w : World} {ty : TypeId}
theorem dJ {t : TypeId} {fs : Array Field} {z : Value} {zl : List Value} {pl : List (Nat × Nat)} {ps : List (Nat × Operand)} {vs : List (Nat × Value)} {cs : List Value} (cells : List Value) (ht : P.underlying t = some (.struct fs)) (hz : ∀ w, (zeroValue t).run P w = .ok z w) (hzl : z.cells = zl.toArray)
    (hpl : ∀ w, (fs.mapM fun f => do pure (f.offset, ← sizeOf f.type) : Sem (Array (Nat × Nat))).run P w = .ok pl.toArray w) (hp : TQ L ps = some vs) (hC : Cells 0 0 pl zl vs cs) (hcs : cs = cells) : Val P L (.build t ps.toArray) ty w (.agg cells.toArray) w := by
  subst hcs
  exact fJ cs.toArray ht hz hpl hp (by rw [hzl]; exact MG hC (pp := []) (pre := []) rfl rfl)
end
end Go.Proofs.YtddekefihgejoaaGreatDoor
end
