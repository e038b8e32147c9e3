import Derived.Test.YtgndbccogcofjaaGreatDoorZ2
import Derived.Test.YtgndbccogcofjaaGreatDoorZ12
import Derived.Test.YtgndbccogcofjaaGreatDoorZ7
import Derived.Lib.OthersKept
import Derived.Lib.Bytealg
import Derived.Conc.AtomicLaws2
import Derived.Test.YtgndbccogcofjaaGreatDoorZ10
set_option linter.unusedSimpArgs false
set_option linter.unusedVariables false
/- Texts of mine, joined, their names in short: EdTwin EdA Atom Build. -/
section
namespace Go.Proofs.YtgndbccogcofjaaGreatDoor
open Go.RowKit
open _root_.Go.Proofs.Tryz
def JO {β : Type} (f : Int → Option β) (S : List Int) : Int → Option β := fun k => if k ∈ S then f k else none
theorem QI {β : Type} (f : Int → Option β) : JO f [] = fun _ => none := by funext k; simp [JO]
theorem OO {β : Type} {f : Int → Option β} {S : List Int} {a : Int} {u : β} (h : f a = some u) : JO f (S ++ [a]) = upd (JO f S) a u := by
  funext k
  unfold JO upd
  by_cases hk : k = a
  · subst hk; simp [h]
  · simp [hk]
theorem QJ {β : Type} {f : Int → Option β} {S : List Int} (h : ∀ a u, f a = some u → a ∈ S) : JO f S = f := by
  funext k
  unfold JO
  split
  · rfl
  · rename_i hk
    cases hf : f k with
    | none => rfl
    | some u => exact absurd (h k u hf) hk
theorem NC (P : Int → Nat) : JM [] P = fun _ => none := by funext k; simp [JM]
theorem QK {D : List Int} {P : Int → Nat} {a : Int} {u : Value} (h : JM D P a = some u) : a ∈ D ∧ u = .pointer (some ⟨P a, 0, none⟩) := by
  unfold JM at h
  split at h
  · rename_i hm; exact ⟨hm, by cases h; rfl⟩
  · cases h
theorem JQ {S : List Int} {P : Int → Nat} {a : Int} {q : Nat} (h : a ∉ S) : JM (S ++ [a]) (xX P a q) = upd (JM S P) a (.pointer (some ⟨q, 0, none⟩)) := by
  funext k
  unfold JM upd xX
  by_cases hk : k = a
  · subst hk; simp
  · simp [hk]
theorem Ea {P : Int → Nat} {U : Int → List (List fB)} {a : Int} : ∀ {S : List Int}, Bz P U (S ++ [a]) = (Bz P U S • eX (P a) (U a) [] 0)
  | [] => by show (eX (P a) (U a) [] 0 • emp) = (emp • eX (P a) (U a) [] 0); rw [qW, jQ]
  | x :: S => by
    show (eX (P x) (U x) [] 0 • Bz P U (S ++ [a])) = ((eX (P x) (U x) [] 0 • Bz P U S) • eX (P a) (U a) [] 0)
    rw [Ea, cO]
theorem Gl {α : Type} {o : Option α} (h : ¬ o.isSome = true) : o = none := by cases o <;> simp_all
theorem Eb {S : List Int} {a : Int} (h : S.Nodup) (ha : a ∉ S) : (S ++ [a]).Nodup := by
  rw [List.nodup_append]
  exact ⟨h, by simp, by intro x hx y hy; rw [List.mem_singleton.1 hy]; rintro rfl; exact ha hx⟩
section
variable {w0 w : World} {F : HP} {pb pr pw pt pm : Nat} {c : lY}
theorem JR (H : aB w0 w (dW pb c.L c.pt c.mark • dw pr c.E c.at_ • dH pw (.cells #[.int .i64 c.place, .map (some pt)] 85 (0, 0)) • fJ qE pt (wY c.tx) • uV pm c.un • F)) :
  fG prog 44 #[.agg #[.pointer (some ⟨pb, 0, none⟩), .pointer (some ⟨pr, 0, none⟩), .pointer (some ⟨pw, 0, none⟩), .map (some pm), .int .i64 c.mode, .bool c.over, .int .i64 c.last, .int .i64 c.fr, .int .i64 c.to, .int .i64 c.res, .bool c.run]] w fun v w' =>
   ∃ qb qr qw qt qm, v = .agg #[.pointer (some ⟨qb, 0, none⟩), .pointer (some ⟨qr, 0, none⟩), .pointer (some ⟨qw, 0, none⟩), .map (some qm), .int .i64 c.mode, .bool c.over, .int .i64 c.last, .int .i64 c.fr, .int .i64 c.to, .int .i64 c.res, .bool c.run] ∧
    aB w0 w' (dW qb c.L c.pt c.mark • dw qr c.E c.at_ • dH qw (.cells #[.int .i64 c.place, .map (some qt)] 85 (0, 0)) • fJ qE qt (wY c.tx) • uV qm c.un •
     dW pb c.L c.pt c.mark • dw pr c.E c.at_ • dH pw (.cells #[.int .i64 c.place, .map (some pt)] 85 (0, 0)) • fJ qE pt (wY c.tx) • uV pm c.un • F) := by
 refine gG func44 ntmps44 ?_
 dsimp only [bf, Nat.reduceAdd]
 refine ay (ah (iy (jo (l := [_, _, _, _, _, _, _, _, _, _, _]) H rfl rfl) ?_))
 rintro _ w1 ⟨b1, rfl, H1⟩
 refine iy (gY (l := [_, _, _, _, _, _, _, _, _, _, _]) H1 zeroValue32 rfl) ?_
 rintro _ w2 ⟨b2, rfl, H2⟩
 refine aA (aj (ay ?_))
 have Qj := H2.drew
 have uK := aB.kp (Qj.f7.f7.f7.f7.f7.f7.f7)
 refine yI [1, 4] uK rfl (gV 0 rfl uK 0 underlying32 rfl sizeOf27 rfl (jB 1 rfl uK (fun W hW => jR underlying27 rfl ((Kp.h hW).f2).get.2 rfl) (gV 3 rfl uK 1 underlying32 rfl sizeOf28 rfl (jB 4 rfl uK (fun W hW => jR underlying28 rfl ((Kp.h hW).f2).get.2 rfl) (kQ 2 rfl (wJ rfl func115 (EW Qj.f3)) ?_)))))
 rintro _ w3 ⟨q3, rfl, H3⟩
 have Fg := aB.kp (H3.f8.f8.f8.f8.f8.f8.f8.f8)
 refine dZ Fg (fun W hW => (Kp.h hW).right.f7.f7.f7.f7.f5.f7.f7) ?_
 refine gV 6 rfl Fg 0 underlying32 rfl sizeOf27 rfl (kQ 5 rfl (wJ rfl func99 (DC H3.f5)) ?_)
 rintro _ w4 ⟨pc4, rfl, H4⟩
 have xW := aB.kp (H4.f9.f9.f9.f9.f9.f9.f9.f9.f9)
 refine gB xW (by kernel_rfl) ?_
 refine gI 7 rfl (by kernel_rfl) (aT 0 (l' := [_, _, _, _, _, _, _, _, _, _, _]) H4.f6 sizeOf27 rfl rfl (by first | rfl | assumption) rfl rfl) ?_
 rintro _ w5 H5
 have LD := aB.kp (H5.f9.f9.f9.f9.f9.f9.f9.f9.f9)
 refine gB LD (by kernel_rfl) ?_
 refine gV 8 rfl LD 1 underlying32 rfl sizeOf28 rfl ?_
 refine gI 9 rfl (by kernel_rfl) (aT 1 (l' := [_, _, _, _, _, _, _, _, _, _, _]) H5 sizeOf28 rfl rfl (by first | rfl | assumption) rfl rfl) ?_
 rintro _ w6 H6
 have JU := aB.kp (H6.f9.f9.f9.f9.f9.f9.f9.f9.f9)
 refine gB JU (by kernel_rfl) ?_
 refine qQ (aj (ay (ah (bG 2 underlying32 rfl sizeOf29 rfl (dX underlying29 rfl (H6).get.2 rfl (bM rfl (bG 0 underlying85 rfl sizeOf3 rfl (dX underlying3 rfl (H6.f7).get.2 rfl (iy (iJ (xU .i64) H6) ?_)))))))))
 rintro _ w7 ⟨b7, rfl, H7⟩
 refine aU (fF (pl := #[(0, 1), (1, 1)]) (#[_, _]) underlying85 zeroValue85 (fun w => by kernel_rfl) rfl (rfl)) (iy (jo (l := [_, _]) H7 rfl rfl) ?_)
 rintro _ w8 ⟨b8, rfl, H8⟩
 refine aV rfl (aA (aj (ay (ay (ah (bG 2 underlying32 rfl sizeOf29 rfl (dX underlying29 rfl (H8.f3).get.2 rfl (bM rfl (bG 1 underlying85 rfl sizeOf83 rfl (dX underlying83 rfl (H8.f9).get.2 rfl (iy (Bj H8.f10 underlying83 rfl) ?_)))))))))))
 rintro _ w9 ⟨it9, mi, rfl, H9⟩
 refine aA (aj (bF ?_))
 obtain ⟨R10, aai, aaj⟩ := aB.FC (H9.f2.f3.f3)
 have HX0 := aaj
 rw [← QI (wY c.tx)] at HX0
 refine gQ [(1, _), (2, _), (3, _), (30, _)] (fun (⟨S, n⟩ : List Int × Nat) => []) (fun (⟨S, n⟩ : List Int × Nat) W => aB w0 W (zo qE pt it9 (wY c.tx) S n • fJ qE b7 (JO (wY c.tx) S) • dH b8 (.cells #[.int .i64 c.place, .map (some b7)] 85 (0, 0)) • R10)) (fun (⟨S, n⟩ : List Int × Nat) => n) (([], _)) (Sub.cons rfl (Sub.cons rfl (Sub.cons rfl (Sub.cons rfl (Sub.nil _))))) (Sub.nil _) HX0 ?_
 rintro ⟨S, n⟩ KG HL
 dsimp only [List.cons_append, List.nil_append]
 refine ay (ah (iy (Dk HL rfl) ?_))
 rintro _ w12 ⟨ox, Sx, mx, rfl, Yq, xR⟩
 refine aU (UF rfl) (aA (aj (ay (aP rfl (fun h1 => ?_) (fun h1 => ?_)))))
 ·(try simp only [aF] at h1)
  try (exfalso; first | contradiction | omega)
  all_goals
   obtain ⟨⟨a, u⟩, rfl⟩ := Option.isSome_iff_exists.1 h1
   obtain ⟨ha, hns, hlt, rfl⟩ := Yq
   refine aO (aj (bF (ay (ah ?_))))
   refine aU (Nc (xR) (by assumption) rfl) ?_
   refine FP rfl rfl (FP rfl rfl (aV rfl (aV rfl (aA (aj (ah (aN rfl (bM rfl (bG 1 underlying85 rfl sizeOf83 rfl (dX underlying83 rfl (xR.f3).get.2 rfl (aN rfl (aN rfl (aJ (sV xR.f2 underlying83 underlying3 rfl rfl rfl) ?_)))))))))))))
   rintro _ Po xE
   refine aA (aQ ?_)
   have hres := OO (S := S) ha
   refine eG ((S ++ [a], mx)) ?_ ?_ ?_ ?_
   ·exact (Sub.nil _)
   ·exact (Sub.cons rfl (Sub.cons rfl (Sub.cons rfl (Sub.cons rfl (Sub.nil _)))))
   ·(try dsimp only)
    first | done | exact (by rw [hres]; exact xE.f3.f2.f3)
   ·(try dsimp only); omega
 ·(try simp only [aF] at h1)
  try (exfalso; first | contradiction | omega)
  all_goals
   obtain rfl := Gl (o := ox) (by simp [h1])
   obtain ⟨rfl, rfl, hall⟩ := Yq
   refine eU (aZ ?_)
   have HX := xR.f3.f2.f3
   rw [QJ hall] at HX
   have aak := HX.f2
   have aal := aak.FY
   subst aai
   refine aZ (bK (aj (ay (ah (aN rfl (bG 2 underlying32 rfl sizeOf29 rfl (aJ (aT 2 (l' := [_, _, _, _, _, _, _, _, _, _, _]) aal.f4 sizeOf29 rfl rfl (by first | rfl | assumption) rfl rfl) ?_)))))))
   rintro _ w16 tX
   refine aA (aj (ay (ah (iy (iJ (xU .i64) tX) ?_))))
   rintro _ VF ⟨b17, rfl, Hg⟩
   refine aV rfl (aA (aj (ay (ay ?_))))
   obtain ⟨D, P, hD1, hD2, HU⟩ := (Hg.f12).Yp
   refine ah (bG 3 underlying32 rfl sizeOf30 rfl (dX underlying30 rfl (HU.f4).get.2 rfl (iy (Bj HU underlying30 rfl) ?_)))
   rintro _ SL ⟨aam, mi, rfl, ER⟩
   refine aA (aj (bF ?_))
   obtain ⟨R19, aan, aao⟩ := aB.FC (ER.f3.f3.f3)
   have HX0 := aao
   rw [← NC P] at HX0
   refine gQ [(1, _), (2, _), (6, _), (47, _)] (fun (⟨S, n, P2⟩ : List Int × Nat × (Int → Nat)) => []) (fun (⟨S, n, P2⟩ : List Int × Nat × (Int → Nat)) W => S.Nodup ∧ aB w0 W (zo qE pm aam (JM D P) S n • Bz P c.un D • fJ qE b17 (JM S P2) • Bz P2 c.un S • R19)) (fun (⟨S, n, P2⟩ : List Int × Nat × (Int → Nat)) => n) (([], _, P)) (Sub.cons rfl (Sub.cons rfl (Sub.cons rfl (Sub.cons rfl (Sub.nil _))))) (Sub.nil _) ⟨List.nodup_nil, (HX0).of_eq (by show _ = (_ • _ • _ • emp • _); rw [jQ])⟩ ?_
   rintro ⟨S, n, P2⟩ SN ⟨hS, HL⟩
   dsimp only [List.cons_append, List.nil_append]
   refine ay (ah (iy (Dk HL rfl) ?_))
   rintro _ UG ⟨ox, Sx, mx, rfl, Yq, qF⟩
   refine aU (UF rfl) (aA (aj (ay (aP rfl (fun h2 => ?_) (fun h2 => ?_)))))
   ·(try simp only [aF] at h2)
    try (exfalso; first | contradiction | omega)
    all_goals
     obtain ⟨⟨a, u⟩, rfl⟩ := Option.isSome_iff_exists.1 h2
     obtain ⟨ha, hns, hlt, rfl⟩ := Yq
     obtain ⟨hmem, rfl⟩ := QK ha
     have HF := qF.f2
     rw [uU hmem] at HF
     have HF2 := HF.flat
     refine aO (aj (bF (ay (ah ?_))))
     refine aU (Nc (HF2.f3) (by assumption) rfl) ?_
     refine FP rfl rfl (FP rfl rfl (aV rfl (aV rfl (aA (aj (ah (aN rfl (aN rfl (aN rfl (bW rfl func116 (DY HF2) ?_))))))))))
     rintro _ XD ⟨q22, rfl, G6⟩
     refine aJ (sV G6.f5 underlying30 underlying3 rfl rfl rfl) ?_
     rintro _ Td y5
     refine aA (aQ ?_)
     have HQ := y5.f2.f6.f3.f5.f5.f6
     have hu1 : Bz (xX P2 a q22) c.un (S ++ [a]) = (Bz P2 c.un S • eX q22 (c.un a) [] 0) := by
      rw [Ea, gq, xH (P' := P2) (U' := c.un) fun x hx => ⟨uQ _ _ (by rintro rfl; exact hns hx), rfl⟩]
     refine eG ((S ++ [a], mx, xX P2 a q22)) ?_ ?_ ?_ ?_
     ·exact (Sub.nil _)
     ·exact (Sub.cons rfl (Sub.cons rfl (Sub.cons rfl (Sub.cons rfl (Sub.nil _)))))
     ·(try dsimp only)
      first | done | exact ⟨Eb hS hns, HQ.of_eq (by rw [uU hmem, hu1, JQ hns]; ac_rfl)⟩
     ·(try dsimp only); omega
   ·(try simp only [aF] at h2)
    try (exfalso; first | contradiction | omega)
    all_goals
     obtain rfl := Gl (o := ox) (by simp [h2])
     obtain ⟨rfl, rfl, hall⟩ := Yq
     refine eU (aZ ?_)
     have aap := qF
     have aaq := aap.FY
     subst aan
     have aar := aaq.f2.f2
     have aas := aB.Cj hD1 hD2 aar
     have hnS : ∀ k, k ∉ Sx → c.un k = [] := fun k hk => hD2 k fun hkD => hk (hall k _ (if_pos hkD))
     have aat := aas.f3.f3
     have aau := aB.Cj hS hnS aat
     refine aZ (bK (aj (ay (ah (aN rfl (bG 3 underlying32 rfl sizeOf30 rfl (aJ (aT 3 (l' := [_, _, _, _, _, _, _, _, _, _, _]) aau.f3 sizeOf30 rfl rfl (by first | rfl | assumption) rfl rfl) ?_)))))))
     rintro _ Y6 Ov
     refine aA (aj (ay (ah (aU (dn underlying32 rfl sizeOf32 rfl rfl (Ov).get.2) (aJ (dG 0 (l' := [_, _, _, _, _, _, _, _, _, _, _]) (us := [_, _, _, _, _, _, _, _, _, _, _]) Ov.f11 sizeOf32 rfl rfl rfl (aC (by first | rfl | assumption) (aC (by first | rfl | assumption) (aC (by first | rfl | assumption) (aC (by first | rfl | assumption) (aC (by first | rfl | assumption) (aC (by first | rfl | assumption) (aC (by first | rfl | assumption) (aC (by first | rfl | assumption) (aC (by first | rfl | assumption) (aC (by first | rfl | assumption) (aC (by first | rfl | assumption) cZ))))))))))) rfl rfl) ?_)))))
     rintro _ Xc Jk
     refine aA (aj (aI ?_))
     refine vF (.inl rfl) (PU results44 rfl underlying32 rfl (by rw [show (prog.info? 32).map (·.size) = some 11 from by kernel_rfl]; rfl) (Jk).get.2) ?_
     exact ⟨_, _, _, _, _, rfl, Jk.right.right.f2.f3.f10.f8.f10.f6.f7.f8.f9.f10⟩
end
end Go.Proofs.YtgndbccogcofjaaGreatDoor
end
section
namespace Go.Proofs.YtgndbccogcofjaaGreatDoor
open Go.RowKit
open _root_.Go.Proofs.Tryz
def LU (D : List Int) (P : Int → Nat) (k : Int) : Option Addr := if k ∈ D then some ⟨P k, 0, none⟩ else none
theorem TQ (D : List Int) (P : Int → Nat) (k : Int) : (JM D P k).getD (.pointer none) = .pointer (LU D P k) := by unfold JM LU; split <;> rfl
theorem QL {D : List Int} {P : Int → Nat} {k : Int} (h : k ∈ D) : LU D P k = some ⟨P k, 0, none⟩ := if_pos h
theorem OQ {D : List Int} {P : Int → Nat} {k : Int} (h : (LU D P k).isNone = false) : k ∈ D := by
  unfold LU at h
  split at h
  · assumption
  · cases h
theorem OT {D : List Int} {P : Int → Nat} {k : Int} (h : (LU D P k).isNone = true) : k ∉ D := by
  unfold LU at h
  split at h
  · cases h
  · assumption
theorem zK {s : bC} (h : ¬ s.uS = 0) : s.dU = false ∧ s.uS = 1 := by
  unfold bC.uS at *
  cases hi : s.dU <;> simp_all
theorem wZ {s : bC} (h : s.uS = 0) : s.dU = true := by
  unfold bC.uS at h
  cases hi : s.dU <;> simp_all
theorem aB.aav {w0 w : World} {A B C F : HP} (H : aB w0 w (A • B • C • F)) : aB w0 w (A • (B • C) • F) := H.of_eq (by rw [cO])
section
variable {w0 w : World} {F : HP} {e p : Nat} {s : bC}
theorem lD (H : aB w0 w (dA e s • F)) : fG prog 32 #[.pointer (some ⟨e, 0, none⟩)] w fun v w' => v = .bool false ∧ w = w' := by
 refine gG func32 ntmps32 ?_
 dsimp only [bf, Nat.reduceAdd]
 refine ay (ah (aV rfl (aA (aj (ay ?_)))))
 obtain ⟨su, sD, sF, sG, sH, sJ, sK, sN, qI, oI, oJ, oK, oL, oM, oN, oO, oP, oQ, oU, oV, dK, bH, gZ, dO⟩ := (H).BQ
 refine ah (aN rfl (aU (iq underlying26 rfl rfl) (eP rfl (fun h1 => ?_) (fun h1 => ?_))))
 ·(try simp only [aF] at h1)
  try (exfalso; first | contradiction | omega)
  all_goals
   refine bD (bD (bD (bD (bD (fP rfl rfl (aV rfl (aA (aj (aI (aH (.inl rfl) results32 rfl ?_))))))))))
   exact ⟨rfl, rfl⟩
 ·(try simp only [aF] at h1)
  try (exfalso; first | contradiction | omega)
  all_goals
   refine aX (aN rfl (aX (bM rfl (aX (bG 11 underlying37 rfl sizeOf33 rfl (aX (dX underlying33 rfl (dO).get.2 rfl (aX (aU (iq underlying33 rfl rfl) (dL rfl rfl (aV rfl (aA (aj (aI (aH (.inl rfl) results32 rfl ?_)))))))))))))))
   exact ⟨rfl, rfl⟩
theorem kD (H : aB w0 w (dA e s • F)) : fG prog 94 #[.pointer (some ⟨e, 0, none⟩)] w fun v w' => v = .int .i64 s.uS ∧ w = w' := by
 unfold bC.uS
 refine gG func94 ntmps94 ?_
 dsimp only [bf, Nat.reduceAdd]
 refine ay (ah (aV rfl (aA (aj (ay (bF (ay (ah (aN rfl (bW rfl func32 (lD H) ?_))))))))))
 rintro _ _ ⟨rfl, rfl⟩
 refine aV rfl (aA (aj (mO (ay ?_))))
 obtain ⟨su, sD, sF, sG, sH, sJ, sK, sN, qI, oI, oJ, oK, oL, oM, oN, oO, oP, oQ, oU, oV, dK, bH, gZ, dO⟩ := (H).BQ
 refine ah (aN rfl (bM rfl (bG 16 underlying37 rfl sizeOf4 rfl (dX underlying4 rfl (dO).get.2 rfl (aU (jY rfl) (aV rfl (aA (aj (aP rfl (fun h1 => ?_) (fun h1 => ?_))))))))))
 ·(try simp only [aF] at h1)
  try (exfalso; first | contradiction | omega)
  all_goals
   refine ay (ah (aV rfl (aA (aj (aI (aY (aK (aH (.inl rfl) results94 rfl ?_))))))))
   exact ⟨by simp [*], rfl⟩
 ·(try simp only [aF] at h1)
  try (exfalso; first | contradiction | omega)
  all_goals
   refine aO (aQ (aj (ay (ah (aV rfl (aA (aj (aI (aH (.inl rfl) results94 rfl ?_)))))))))
   exact ⟨by simp [*], rfl⟩
theorem xg {x0 x1 x4 x5 x6 x7 x8 x9 x10 x11 x12 Ze x14 x15 x16 x17 x18 x19 x20 x21 Yr x23 x24 x25 Yt x27 x28 x29 x30 x31 x32 Yu : Value} {pw pt pm : Nat} {k : Int} {U : Int → List (List fB)} (H : aB w0 w (dH e (.cells (x0 :: x1 :: .pointer (some ⟨pw, 0, none⟩) :: .map (some pm) :: x4 :: x5 :: x6 :: x7 :: x8 :: x9 :: x10 :: x11 :: x12 :: Ze :: x14 :: x15 :: x16 :: x17 :: x18 :: x19 :: x20 :: x21 :: Yr :: x23 :: x24 :: x25 :: Yt :: x27 :: x28 :: x29 :: x30 :: x31 :: x32 :: Yu :: []).toArray 37 (0, 0)) • dH pw (.cells #[.int .i64 k, .map (some pt)] 85 (0, 0)) • uV pm U • F)) : fG prog 160 #[.pointer (some ⟨e, 0, none⟩)] w fun v w' => ∃ p, v = .pointer (some ⟨p, 0, none⟩) ∧
  aB w0 w' (eX p (U k) [] 0 • Gj pm U k p • dH e (.cells (x0 :: x1 :: .pointer (some ⟨pw, 0, none⟩) :: .map (some pm) :: x4 :: x5 :: x6 :: x7 :: x8 :: x9 :: x10 :: x11 :: x12 :: Ze :: x14 :: x15 :: x16 :: x17 :: x18 :: x19 :: x20 :: x21 :: Yr :: x23 :: x24 :: x25 :: Yt :: x27 :: x28 :: x29 :: x30 :: x31 :: x32 :: Yu :: []).toArray 37 (0, 0)) • dH pw (.cells #[.int .i64 k, .map (some pt)] 85 (0, 0)) • F) := by
 refine gG func160 ntmps160 ?_
 dsimp only [bf, Nat.reduceAdd]
 refine ay (ah (aV rfl (aA (aj (ay ?_)))))
 obtain ⟨D, P, hD1, hD2, HU⟩ := (H.f3).Yp
 have BR := HU.drew
 have fA := aB.kp (BR.f4.f4.f4.f4)
 refine yI [4, 9, 12, 13] fA rfl (iD 0 rfl fA rfl (jS 1 rfl fA rfl (gV 2 rfl fA 0 underlying37 rfl sizeOf32 rfl (gV 3 rfl fA 3 underlying32 rfl sizeOf30 rfl (jB 4 rfl fA (fun W hW => jR underlying30 rfl ((Kp.h hW).f3).get.2 rfl) (iD 5 rfl fA rfl (jS 6 rfl fA rfl (gV 7 rfl fA 0 underlying37 rfl sizeOf32 rfl (gV 8 rfl fA 2 underlying32 rfl sizeOf29 rfl (jB 9 rfl fA (fun W hW => jR underlying29 rfl ((Kp.h hW).f3).get.2 rfl) (jS 10 rfl fA rfl (gV 11 rfl fA 0 underlying85 rfl sizeOf3 rfl (jB 12 rfl fA (fun W hW => jR underlying3 rfl ((Kp.h hW).f4).get.2 rfl) (jB 13 rfl fA (fun W hW => Vs (Di ((Kp.h hW)) underlying30 underlying3 zeroValue117 rfl rfl) (TQ D P k)) (jr 14 rfl fA (fun _ => eH rfl) (qQ (aj (ay (ay (ah (aN rfl (aU (iq underlying117 rfl rfl) (aA (aj (aP rfl (fun h1 => ?_) (fun h1 => ?_))))))))))))))))))))))))))
 ·(try simp only [aF] at h1)
  try (exfalso; first | contradiction | omega)
  all_goals
   have hnm := OT h1
   refine ay (ah (bW rfl func215 (Ic BR) ?_))
   rintro _ w1 ⟨p1, rfl, H1⟩
   refine aV rfl (aA (aj ?_))
   have Fj := H1.drew
   have jL := aB.kp (Fj.f5.f5.f5.f5.f5)
   refine yI [4, 9, 12] jL rfl (iD 0 rfl jL rfl (jS 1 rfl jL rfl (gV 2 rfl jL 0 underlying37 rfl sizeOf32 rfl (gV 3 rfl jL 3 underlying32 rfl sizeOf30 rfl (jB 4 rfl jL (fun W hW => jR underlying30 rfl ((Kp.h hW).f4).get.2 rfl) (iD 5 rfl jL rfl (jS 6 rfl jL rfl (gV 7 rfl jL 0 underlying37 rfl sizeOf32 rfl (gV 8 rfl jL 2 underlying32 rfl sizeOf29 rfl (jB 9 rfl jL (fun W hW => jR underlying29 rfl ((Kp.h hW).f4).get.2 rfl) (jS 10 rfl jL rfl (gV 11 rfl jL 0 underlying85 rfl sizeOf3 rfl (jB 12 rfl jL (fun W hW => jR underlying3 rfl ((Kp.h hW).f5).get.2 rfl) (iD 13 rfl jL rfl ?_))))))))))))))
   refine gI 14 rfl (by kernel_rfl) (sV Fj.f2 underlying30 underlying3 rfl rfl rfl) ?_
   rintro _ w2 H2
   have OG := aB.kp (H2.f5.f5.f5.f5.f5)
   refine gB OG (by kernel_rfl) ?_
   refine qQ (aj (ay (ah (aN rfl (aV rfl (aA (aj (aI (aH (.inl rfl) results160 rfl ?_)))))))))
   have hu1 : Bz (xX P k p1) U (D ++ [k]) = (Bz P U D • eX p1 [] [] 0) := by
    rw [Ea, gq, hD2 _ hnm, xH (P' := P) (U' := U) fun x hx => ⟨uQ _ _ (by rintro rfl; exact hnm hx), rfl⟩]
   have HM := aB.aav H2.f5.f5.f4.f5.f5
   rw [← hu1, ← JQ hnm] at HM
   have HZ := aB.U0 (k := k) (Eb hD1 hnm) (fun k hk => hD2 k fun hm => hk (by simp [hm])) (by simp) HM
   rw [gq] at HZ
   exact ⟨_, rfl, HZ⟩
 ·(try simp only [aF] at h1)
  try (exfalso; first | contradiction | omega)
  all_goals
   have hmem := OQ h1
   rw [QL hmem]
   refine aO (aj (ay (ah (aN rfl (aV rfl (aA (aj (aI (aH (.inl rfl) results160 rfl ?_)))))))))
   exact ⟨_, rfl, aB.U0 hD1 hD2 hmem BR.f4.f4.f4.f4⟩
theorem aB.Ir {b p : Nat} {k : Int} {U : Int → List (List fB)} (H : aB w0 w (Gj b U k p • eX p (U k) [] 0 • F)) : aB w0 w (uV b U • F) := by
  have := H.uX
  rwa [TL] at this
end
end Go.Proofs.YtgndbccogcofjaaGreatDoor
end
section
namespace Go.Proofs.YtgndbccogcofjaaGreatDoor
open Go.RowKit Go.Lib
section
variable {P : Program} {L : List (Nat × Value)} {w0 w : World} {F : HP} {ty : TypeId} {b : Nat} {v d : Int} {t : TypeId}
theorem QM {T : Value → World → Prop} {f : FuncId} {args : List Operand} {ts : Array TypeId} {vs : List Value} {fn : Func} {e : Array Value → Sem Value} {v : Value} {w' : World} (ha : yZ L args = some vs)
    (hf : P.funcs[f]? = some fn) (hname : (fn.name == "runtime.NumGoroutine") = false) (hb : fn.body.isNone = true) (hn : Extern.findNext fn = none) (he : Extern.find fn = some e) (hr : (e vs.toArray).run P w = .ok v w') (ht : T v w') :
    rM P L (.call ⟨.value (.func f), args.toArray, ts⟩) ty w T := oW (v := v) (w' := w') (fun ρ hρ _ _ _ _ => by
  have hg : ρ (.func f) = .func (.func f) #[] #[] := hρ _ _ rfl
  have hc := run_callFunc_extern hf hname hb hn he vs.toArray w
  rw [hr] at hc
  simp [execOp, resolve, invoke, WZ hρ _ _ ha, hg, Deferred.ofValue]
  exact hc) ht
theorem LV (hc : w.cell? ⟨b, 0, none⟩ = some (.int .i64 v)) : (Extern.Atomic.loadT (.int .i64) #[.pointer (some ⟨b, 0, none⟩)]).run P w = .ok (.int .i64 v) w := by
  change Sem.run P (do Extern.Atomic.read (.int .i64) (← asAddr (.pointer (some ⟨b, 0, none⟩)))) w = _
  simp [Extern.Atomic.read, asAddr, hc, Result.andThen]
theorem TR {f : FuncId} {args : List Operand} {ts : Array TypeId} {fn : Func} (H : aB w0 w (dH b (.cells #[.int .i64 v] t (0, 0)) • F)) (ha : yZ L args = some [.pointer (some ⟨b, 0, none⟩), .int .i64 d])
    (hf : P.funcs[f]? = some fn) (hname : (fn.name == "runtime.NumGoroutine") = false) (hb : fn.body.isNone = true) (hn : Extern.findNext fn = none) (he : Extern.find fn = some (Extern.Atomic.update (Op.intArith .add) .i64 true)) :
    rM P L (.call ⟨.value (.func f), args.toArray, ts⟩) ty w fun u w' => u = .int .i64 (IntKind.i64.wrap (v + d)) ∧ aB w0 w' (dH b (.cells #[.int .i64 (IntKind.i64.wrap (v + d))] t (0, 0)) • F) :=
  QM ha hf hname hb hn he (Conc.run_add_entry (gK H.get.2 rfl) (wH H.get.2)) ⟨rfl, H.setCell (i := 0) _⟩
theorem QN {f : FuncId} {args : List Operand} {ts : Array TypeId} {fn : Func} (H : aB w0 w (dH b (.cells #[.int .i64 v] t (0, 0)) • F)) (ha : yZ L args = some [.pointer (some ⟨b, 0, none⟩)])
    (hf : P.funcs[f]? = some fn) (hname : (fn.name == "runtime.NumGoroutine") = false) (hb : fn.body.isNone = true) (hn : Extern.findNext fn = none) (he : Extern.find fn = some (Extern.Atomic.loadT (.int .i64))) :
    rM P L (.call ⟨.value (.func f), args.toArray, ts⟩) ty w fun u w' => u = .int .i64 v ∧ w = w' :=
  QM ha hf hname hb hn he (LV (gK H.get.2 rfl)) ⟨rfl, rfl⟩
theorem zL (H : aB w0 w (dH b (.cells #[.int .i64 v] t (0, 0)) • F)) : fG Tryz.prog 95 #[.pointer (some ⟨b, 0, none⟩), .int .i64 d] w fun u w' => u = .int .i64 (IntKind.i64.wrap (v + d)) ∧ aB w0 w' (dH b (.cells #[.int .i64 (IntKind.i64.wrap (v + d))] t (0, 0)) • F) := by
 refine gG Tryz.func95 Tryz.ntmps95 ?_
 dsimp only [bf, Nat.reduceAdd]
 refine ay (ah (aV rfl (aA (aj (ay (ah (aN rfl (bM rfl (bG 0 Tryz.underlying106 rfl Tryz.sizeOf2 rfl (aN rfl (iy (TR H rfl Tryz.func159 rfl rfl (by kernel_rfl) (by kernel_rfl)) ?_)))))))))))
 rintro _ w1 ⟨rfl, H1⟩
 refine aV rfl (aA (aj (aI (aH (.inl rfl) Tryz.results95 rfl ?_))))
 exact ⟨rfl, H1⟩
theorem Fp (H : aB w0 w (dH b (.cells #[.int .i64 v] t (0, 0)) • F)) : fG Tryz.prog 36 #[.pointer (some ⟨b, 0, none⟩)] w fun u w' => u = .int .i64 v ∧ w = w' := by
 refine gG Tryz.func36 Tryz.ntmps36 ?_
 dsimp only [bf, Nat.reduceAdd]
 refine ay (ah (aV rfl (aA (aj (ay (ah (aN rfl (bM rfl (bG 0 Tryz.underlying106 rfl Tryz.sizeOf2 rfl (iy (QN H rfl Tryz.func106 rfl rfl (by kernel_rfl) (by kernel_rfl)) ?_))))))))))
 rintro _ _ ⟨rfl, rfl⟩
 refine aV rfl (aA (aj (aI (aH (.inl rfl) Tryz.results36 rfl ?_))))
 exact ⟨rfl, rfl⟩
end
end Go.Proofs.YtgndbccogcofjaaGreatDoor
end
section
namespace Go.Proofs.YtgndbccogcofjaaGreatDoor
open Go.RowKit
inductive Cells : Nat → Nat → List (Nat × Nat) → List Value → List (Nat × Value) → List Value → Prop
  | nil {i o : Nat} : Cells i o [] [] [] []
  | one {i o : Nat} {pl : List (Nat × Nat)} {z : List Value} {vs : List (Nat × Value)} {cs : List Value} {v zv : Value} (h : v.oneCell' = true) (k : Cells (i + 1) (o + 1) pl z vs cs) : Cells i o ((o, 1) :: pl) (zv :: z) ((i, v) :: vs) (v :: cs)
  | agg {i o m : Nat} {pl : List (Nat × Nat)} {z : List Value} {vs : List (Nat × Value)} {cs us zs : List Value} (hm : us.length = m) (hz : zs.length = m) (k : Cells (i + 1) (o + m) pl z vs cs) : Cells i o ((o, m) :: pl) (zs ++ z) ((i, .agg us.toArray) :: vs) (us ++ cs)
  | zero {i o m : Nat} {pl : List (Nat × Nat)} {z : List Value} {vs : List (Nat × Value)} {cs zs : List Value} (hz : zs.length = m) (k : Cells (i + 1) (o + m) pl z vs cs) : Cells i o ((o, m) :: pl) (zs ++ z) vs (zs ++ cs)
theorem LW {v : Value} (h : v.oneCell' = true) : v.cells = #[v] := by cases v <;> simp_all [Value.cells, Value.oneCell']
theorem Gm {pl : Array (Nat × Nat)} {i o m : Nat} {v : Value} {vs : List (Nat × Value)} {pre zs us z : List Value} {R : Option (Array Value)} (hp : pl[i]? = some (o, m)) (ho : pre.length = o) (hv : v.cells = us.toArray) (hm : us.length = m) (hz : zs.length = m)
    (h : Instr.fill (fun i => pl[i]?) (pre ++ us ++ z).toArray vs = R) : Instr.fill (fun i => pl[i]?) (pre ++ (zs ++ z)).toArray ((i, v) :: vs) = R := by
  simp only [Instr.fill]
  rw [hp]
  dsimp only
  rw [hv, if_neg (by simp; omega)]
  have hfr := Qk us o 0 (pre ++ (zs ++ z)).toArray (by simp; omega)
  simp only [Nat.add_zero] at hfr
  rw [← Array.foldl_toList, Array.toList_zipIdx]
  simp only [List.toList_toArray] at hfr ⊢
  rw [show (us.zipIdx.foldl (fun cs (x : Value × Nat) => cs.setIfInBounds (o + x.2) x.1) (pre ++ (zs ++ z)).toArray) = _ from hfr]
  rw [← h]
  congr 2
  subst ho
  rw [List.take_left, ← List.append_assoc pre zs z, show pre.length + us.length = (pre ++ zs).length from by simp; omega, List.drop_left]
theorem LX {i o : Nat} {pl : List (Nat × Nat)} {z cs : List Value} {vs : List (Nat × Value)} (h : Cells i o pl z vs cs) : ∀ {pp : List (Nat × Nat)} {pre : List Value}, pp.length = i → pre.length = o →
    Instr.fill (fun j => (pp ++ pl).toArray[j]?) (pre ++ z).toArray vs = some (pre ++ cs).toArray := by
  induction h with
  | nil => intro pp pre _ _; rfl
  | @one i o pl z vs cs v zv h k ih =>
    intro pp pre h1 h2
    refine Gm (zs := [zv]) (us := [v]) (o := o) (m := 1) (by simp [← h1]) h2 (LW h) rfl rfl ?_
    have := ih (pp := pp ++ [(o, 1)]) (pre := pre ++ [v]) (by simp; omega) (by simp; omega)
    simpa using this
  | @agg i o m pl z vs cs us zs hm hz k ih =>
    intro pp pre h1 h2
    refine Gm (zs := zs) (us := us) (o := o) (m := m) (by simp [← h1]) h2 rfl hm hz ?_
    have := ih (pp := pp ++ [(o, m)]) (pre := pre ++ us) (by simp; omega) (by simp; omega)
    simpa using this
  | @zero i o m pl z vs cs zs hz k ih =>
    intro pp pre h1 h2
    have := ih (pp := pp ++ [(o, m)]) (pre := pre ++ zs) (by simp; omega) (by simp; omega)
    simpa using this
section
variable {P : Program} {L : List (Nat × Value)} {w : World} {ty : TypeId}
theorem fM {t : TypeId} {fs : Array Field} {z : Value} {zl : List Value} {pl : List (Nat × Nat)} {ps : List (Nat × Operand)} {vs : List (Nat × Value)} {cs : List Value} (cells : List Value) (ht : P.underlying t = some (.struct fs)) (hz : ∀ w, (zeroValue t).run P w = .ok z w) (hzl : z.cells = zl.toArray)
    (hpl : ∀ w, (fs.mapM fun f => do pure (f.offset, ← sizeOf f.type) : Sem (Array (Nat × Nat))).run P w = .ok pl.toArray w) (hp : RV L ps = some vs) (hC : Cells 0 0 pl zl vs cs) (hcs : cs = cells) : Val P L (.build t ps.toArray) ty w (.agg cells.toArray) w := by
  subst hcs
  exact fF cs.toArray ht hz hpl hp (by rw [hzl]; exact LX hC (pp := []) (pre := []) rfl rfl)
end
end Go.Proofs.YtgndbccogcofjaaGreatDoor
end
