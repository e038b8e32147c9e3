import Derived.Test.YtddekefihgejoaaGreatDoorZ2
import Derived.Test.YtddekefihgejoaaGreatDoorZ7
import Derived.Test.YtddekefihgejoaaGreatDoorZ4
set_option linter.unusedSimpArgs false
set_option linter.unusedVariables false
/- Texts of mine, joined, their names in short: UList Range UList2 UList3 UList4. -/
section
namespace Go.Proofs.YtddekefihgejoaaGreatDoor
open Go.RowKit
open _root_.Go.Proofs.Tryz
abbrev fJ := Int × List Int × List Int
def eY (G : List (List fJ)) (N : List fJ) : Nat := (G.map List.length).sum + N.length
def EB (e : fJ) : Prop := e.2.1.length ≤ 35184372087808 ∧ e.2.2.length ≤ 35184372087808
theorem TF {N : List fJ} {x : fJ} (h : ∀ e ∈ N, EB e) (hx : EB x) : ∀ e ∈ N ++ [x], EB e := fun e he => by
  rcases List.mem_append.1 he with he | he
  · exact h e he
  · rw [List.mem_singleton.1 he]; exact hx
theorem Jb {G : List (List fJ)} {N : List fJ} (h : ∀ g ∈ G, ∀ e ∈ g, EB e) (hx : ∀ e ∈ N, EB e) : ∀ g ∈ G ++ [N], ∀ e ∈ g, EB e := fun g hg => by
  rcases List.mem_append.1 hg with hg | hg
  · exact h g hg
  · rw [List.mem_singleton.1 hg]; exact hx
theorem MK {G : List (List fJ)} {N : List fJ} (h : ∀ g ∈ G, g ≠ []) (hx : N ≠ []) : ∀ g ∈ G ++ [N], g ≠ [] := fun g hg => by
  rcases List.mem_append.1 hg with hg | hg
  · exact h g hg
  · rw [List.mem_singleton.1 hg]; exact hx
def TG (G : List (List fJ)) (N : List fJ) (op : Int) : Prop := (∀ g ∈ G, g ≠ []) ∧ eY G N ≤ 16384 ∧ 0 ≤ op ∧ op ≤ 4611686018427387904 ∧ (∀ g ∈ G, ∀ e ∈ g, EB e) ∧ ∀ e ∈ N, EB e
theorem KP {G : List (List fJ)} (h : ∀ g ∈ G, g ≠ []) : G.length ≤ (G.map List.length).sum := by
  induction G with
  | nil => simp
  | cons g G ih =>
    have h1 := ih fun x hx => h x (by simp [hx])
    have h2 : 0 < g.length := List.length_pos_iff.2 (h g (by simp))
    simp; omega
theorem TG.len {G : List (List fJ)} {N : List fJ} {op : Int} (h : TG G N op) : G.length + N.length ≤ 16384 := by
  have := KP h.1
  have := h.2.1
  unfold eY at this
  omega
def dX (p : Nat) (G : List (List fJ)) (N : List fJ) (op : Int) : HP := qN fun (x : Value × Value × List (Value × List dw) × List dw) =>
  fact (TG G N op ∧ x.2.2.1.map (fun g => g.2.map dw.says) = G ∧ x.2.2.2.map dw.says = N) • dh p (.cells #[x.1, x.2.1, .int .i64 op, .int .i64 (eY G N : Nat), .bool true] 233 (0, 0)) • zi x.1 x.2.2.1 • EO x.2.1 x.2.2.2
section
variable {w0 w : World} {F : HP} {p : Nat} {G : List (List fJ)} {N : List fJ} {op : Int} {gv nv : Value} {gs : List (Value × List dw)} {now : List dw} {a : Int} {d z : Value} {dl il : List Int}
theorem aB.qj (H : aB w0 w (dX p G N op • F)) : ∃ gv nv gs now, TG G N op ∧ gs.map (fun g => g.2.map dw.says) = G ∧ now.map dw.says = N ∧ gs.length = G.length ∧ now.length = N.length ∧ G.length + N.length ≤ 16384 ∧
    aB w0 w (dh p (.cells #[gv, nv, .int .i64 op, .int .i64 (eY G N : Nat), .bool true] 233 (0, 0)) • Row 67 1 gv gs.length (gs.map (·.1)) • nR gs • Row 202 3 nv now.length (now.flatMap dw.enc) • jo now • F) := by
  obtain ⟨⟨gv, nv, gs, now⟩, H⟩ := H.lD
  obtain ⟨⟨h1, h2, h3⟩, H⟩ := H.flat.fact
  refine ⟨gv, nv, gs, now, h1, h2, h3, ?_, ?_, h1.len, ?_⟩
  · rw [← h2]; simp
  · rw [← h3]; simp
  · have := H.flat
    unfold zi EO at this
    exact this.of_eq (by ac_rfl)
theorem aB.pI (h1 : TG G N op) (h2 : gs.map (fun g => g.2.map dw.says) = G) (h3 : now.map dw.says = N) {ed : Int} (he : ed = (eY G N : Nat))
    (H : aB w0 w (dh p (.cells #[gv, nv, .int .i64 op, .int .i64 ed, .bool true] 233 (0, 0)) • zi gv gs • EO nv now • F)) : aB w0 w (dX p G N op • F) := by
  subst he
  exact aB.gK (gv, nv, gs, now) (aB.deep (aB.jP ⟨h1, h2, h3⟩ (H.of_eq (by ac_rfl))))
theorem aB.jw (h1 : TG G N op) (h2 : gs.map (fun g => g.2.map dw.says) = G) (h3 : now.map dw.says = N) {ed : Int} (he : ed = (eY G N : Nat))
    (H : aB w0 w (dh p (.cells #[gv, nv, .int .i64 op, .int .i64 ed, .bool true] 233 (0, 0)) • Row 67 1 gv gs.length (gs.map (·.1)) • nR gs • Row 202 3 nv now.length (now.flatMap dw.enc) • jo now • F)) : aB w0 w (dX p G N op • F) :=
  aB.pI h1 h2 h3 he (H.of_eq (by unfold zi EO; ac_rfl))
theorem iO (H : aB w0 w (dX p G N op • F)) : gG prog 161 #[.pointer (some ⟨p, 0, none⟩)] w fun v w' => v = .bool false ∧ w = w' := by
 refine iF func161 ntmps161 ?_
 dsimp only [bg, Nat.reduceAdd]
 refine ay (ah (aW rfl (aA (aj (ay ?_)))))
 obtain ⟨vZ, tH, jE, jh, iT, oI, mJ, Ag, Ah, EP, kL⟩ := (H).qj
 refine ah (aI rfl (aU (iI underlying187 rfl rfl) (iM rfl (fun h1 => ?_) (fun h1 => ?_))))
 ·(try simp only [aG] at h1)
  try (exfalso; first | contradiction | omega)
  all_goals
   refine aZ (aZ (aZ (aZ (aZ (fK rfl rfl (aW rfl (aA (aj (aK (aQ (.inl rfl) results161 rfl ?_))))))))))
   exact ⟨rfl, rfl⟩
 ·(try simp only [aG] at h1)
  try (exfalso; first | contradiction | omega)
  all_goals
   refine aY (aI rfl (aY (bQ rfl (aY (bC 4 underlying233 rfl sizeOf4 rfl (aY (eu underlying4 rfl (kL).get.2 rfl (aY (aU (gQ rfl) (fC rfl rfl (aW rfl (aA (aj (aK (aQ (.inl rfl) results161 rfl ?_)))))))))))))))
   exact ⟨rfl, rfl⟩
theorem Gx (H : aB w0 w F) : gG prog 163 #[] w fun v w' => ∃ p, v = .pointer (some ⟨p, 0, none⟩) ∧ aB w0 w' (dX p [] [] 0 • F) := by
 refine iF func163 ntmps163 ?_
 dsimp only [bg, Nat.reduceAdd]
 refine ay (ah (aW rfl (aA (aj (ay (ah (aU (fO (pl := #[(0, 4), (4, 1)]) (#[_, _, _, _, _]) underlying233 zeroValue233 (fun w => by kernel_rfl) rfl (rfl)) (iw (jd (l := [_, _, _, _, _]) H rfl rfl) ?_))))))))
 rintro _ w1 ⟨b1, rfl, H1⟩
 refine aW rfl (aA (aj (aK (aQ (.inl rfl) results163 rfl ?_))))
 refine ⟨_, rfl, aB.pI (gv := .slice none 0 0) (nv := .slice none 0 0) (gs := []) (now := []) ⟨by simp, by decide, by decide, by decide, by simp, by simp⟩ rfl rfl rfl ?_⟩
 exact (((H1).oU none).zk none).of_eq (by ac_rfl)
theorem Gy (H : aB w0 w (dX p G N op • F)) : gG prog 117 #[.pointer (some ⟨p, 0, none⟩)] w fun v w' => v = .int .i64 ((G.length : Int) + min 1 N.length) ∧ aB w0 w' (dX p G N op • F) := by
 refine iF func117 ntmps117 ?_
 dsimp only [bg, Nat.reduceAdd]
 refine ay (ah (aW rfl (aA (aj (ay (ay (ah (aI rfl (dH rfl func161 (iO H) ?_)))))))))
 rintro _ _ ⟨rfl, rfl⟩
 refine aA (aj (nY (aO (aj (ay ?_)))))
 obtain ⟨vZ, tH, jE, jh, iT, oI, mJ, Ag, Ah, EP, kL⟩ := (H).qj
 have Ai := kL.drew
 have fE := aB.kp (Ai.f5.f5.f5.f5.f5)
 refine wo [4, 10] fE rfl (gV 0 rfl fE rfl (iZ 1 rfl fE rfl (dV 2 rfl fE 0 underlying233 rfl sizeOf231 rfl (dV 3 rfl fE 0 underlying231 rfl sizeOf180 rfl (iy 4 rfl fE (fun W hW => iQ underlying180 rfl ((Kp.h hW)).get.2 rfl) (iR 5 rfl fE (fun _ => eX ((Ai.f2).aT) underlying180 rfl) (gV 6 rfl fE rfl (iZ 7 rfl fE rfl (dV 8 rfl fE 0 underlying233 rfl sizeOf231 rfl (dV 9 rfl fE 1 underlying231 rfl sizeOf67 rfl (iy 10 rfl fE (fun W hW => iQ underlying67 rfl ((Kp.h hW)).get.2 rfl) (iR 11 rfl fE (fun _ => eX ((Ai.f4).aT) underlying67 rfl) (iR 12 rfl fE (fun _ => Pm rfl rfl) (iR 13 rfl fE (fun _ => dG rfl rfl (by omega)) (iR 14 rfl fE (fun _ => fA rfl) (nJ (aj (aK (aQ (.inl rfl) results117 rfl ?_)))))))))))))))))))
 have KQ := Ai.f5.f5.f5.f5.f5
 have KR := aB.jw iT oI mJ rfl KQ
 exact ⟨by rw [Ag, Ah]; congr 1; omega, KR⟩
theorem DL (H : aB w0 w (dX p G N op • F)) : gG prog 137 #[.pointer (some ⟨p, 0, none⟩)] w fun v w' => v = .int .i64 (eY G N : Nat) ∧ aB w0 w' (dX p G N op • F) := by
 refine iF func137 ntmps137 ?_
 dsimp only [bg, Nat.reduceAdd]
 refine ay (ah (aW rfl (aA (aj (ay (ay (ah (aI rfl (dH rfl func161 (iO H) ?_)))))))))
 rintro _ _ ⟨rfl, rfl⟩
 refine aA (aj (nY (aO (aj (ay ?_)))))
 obtain ⟨vZ, tH, jE, jh, iT, oI, mJ, Ag, Ah, EP, kL⟩ := (H).qj
 refine ah (aI rfl (bQ rfl (bC 0 underlying233 rfl sizeOf231 rfl (bC 3 underlying231 rfl sizeOf3 rfl (eu underlying3 rfl (kL).get.2 rfl (aW rfl (aA (aj (aK (aQ (.inl rfl) results137 rfl ?_))))))))))
 have KQ := kL.f5.f5.f5.f5.f5
 have KR := aB.jw iT oI mJ rfl KQ
 exact ⟨rfl, KR⟩
theorem rJ (H : aB w0 w (dX p G N op • F)) (hb : op < 4611686018427387904) : gG prog 132 #[.pointer (some ⟨p, 0, none⟩)] w fun v w' => v = .int .i64 0 ∧ aB w0 w' (dX p G N (op + 1) • F) := by
 have hop : 0 ≤ op := by obtain ⟨gv, nv, gs, now, k1, _⟩ := H.qj; exact k1.2.2.1
 refine iF func132 ntmps132 ?_
 dsimp only [bg, Nat.reduceAdd]
 refine ay (ah (aW rfl (aA (aj (ay (ay (ah (aI rfl (dH rfl func161 (iO H) ?_)))))))))
 rintro _ _ ⟨rfl, rfl⟩
 refine aA (aj (nY (aO (aj (ay ?_)))))
 obtain ⟨vZ, tH, jE, jh, iT, oI, mJ, Ag, Ah, EP, kL⟩ := (H).qj
 refine ah (aI rfl (bQ rfl (bC 0 underlying233 rfl sizeOf231 rfl (bC 2 underlying231 rfl sizeOf3 rfl (eu underlying3 rfl (kL).get.2 rfl (aU (dG rfl rfl (by omega)) (bQ rfl (bC 0 underlying233 rfl sizeOf231 rfl (bC 2 underlying231 rfl sizeOf3 rfl (aJ (aS 2 (l' := [_, _, _, _, _]) kL sizeOf3 rfl rfl (by first | rfl | assumption) rfl rfl) ?_))))))))))
 rintro _ w3 H3
 refine aA (aj (ay (ah (aW rfl (aA (aj (aK (aQ (.inl rfl) results132 rfl ?_))))))))
 exact ⟨rfl, aB.jw ⟨iT.1, iT.2.1, by omega, by omega, iT.2.2.2.2⟩ oI mJ rfl H3.f5.f5.f5.f5.f5⟩
def nS (G : List (List fJ)) (N : List fJ) (a : Int) (dl il : List Int) : Int := if dl.length + il.length = 0 ∨ a < 0 then 1 else if 16384 ≤ eY G N then 3 else 0
def KT (G : List (List fJ)) (N : List fJ) (op a : Int) (dl il : List Int) : List (List fJ) := if nS G N a dl il = 0 then (if 0 < op then G else G ++ [[(a, dl, il)]]) else G
def KU (G : List (List fJ)) (N : List fJ) (op a : Int) (dl il : List Int) : List fJ := if nS G N a dl il = 0 then (if 0 < op then N ++ [(a, dl, il)] else N) else N
theorem Gz {x : fJ} : eY G (N ++ [x]) = eY G N + 1 := by simp [eY]; omega
theorem Jc {x : fJ} : eY (G ++ [[x]]) N = eY G N + 1 := by simp [eY]; omega
theorem DN (h : nS G N a dl il ≠ 0) : KT G N op a dl il = G := by unfold KT; rw [if_neg h]
theorem DR (h : nS G N a dl il ≠ 0) : KU G N op a dl il = N := by unfold KU; rw [if_neg h]
theorem CJ (h : nS G N a dl il = 0) (ho : 0 < op) : KT G N op a dl il = G := by unfold KT; rw [if_pos h, if_pos ho]
theorem CO (h : nS G N a dl il = 0) (ho : 0 < op) : KU G N op a dl il = N ++ [(a, dl, il)] := by unfold KU; rw [if_pos h, if_pos ho]
theorem Qd (h : nS G N a dl il = 0) (ho : ¬ 0 < op) : KT G N op a dl il = G ++ [[(a, dl, il)]] := by unfold KT; rw [if_pos h, if_neg ho]
theorem Qe (h : nS G N a dl il = 0) (ho : ¬ 0 < op) : KU G N op a dl il = N := by unfold KU; rw [if_pos h, if_neg ho]
theorem vG (H : aB w0 w (dX p G N op • F)) (hd : iG w0 F .i32 d dl) (hi : iG w0 F .i32 z il) (b2 : dl.length ≤ 35184372087808) (b3 : il.length ≤ 35184372087808) :
  gG prog 133 #[.pointer (some ⟨p, 0, none⟩), Xz a d z] w fun v w' => v = .int .i64 (nS G N a dl il) ∧ aB w0 w' (dX p (KT G N op a dl il) (KU G N op a dl il) op • F) := by
 refine iF func133 ntmps133 ?_
 dsimp only [bg, Nat.reduceAdd]
 refine ay (ah (iw (jd (l := [_, _, _]) H rfl rfl) ?_))
 rintro _ w1 ⟨b1, rfl, H1⟩
 refine aW rfl (aA (aj (ay (ay (ah (aI rfl (dH rfl func161 (iO H1.f2) ?_)))))))
 rintro _ _ ⟨rfl, rfl⟩
 refine aA (aj (nY (aO (aj (ay (ay (ah (bC 1 underlying202 rfl sizeOf23 rfl (eu underlying23 rfl (H1).get.2 rfl (aU (eG (hd _ (H1.right.right)) underlying23 rfl) (bC 2 underlying202 rfl sizeOf23 rfl (eu underlying23 rfl (H1).get.2 rfl (aU (eG (hi _ (H1.right.right)) underlying23 rfl) (aU (dG rfl rfl (by omega)) (aU (gU rfl rfl) (iM rfl (fun h1 => ?_) (fun h1 => ?_)))))))))))))))))
 ·(try simp only [aG] at h1)
  refine aZ (aZ (aZ (fK rfl rfl (aA (aj (zM (ay (ah (aW rfl (aA (aj (aK (aN (aQ (.inl rfl) results133 rfl ?_))))))))))))))
  have e : nS G N a dl il = 1 := by unfold nS; rw [if_pos (by omega)]
  rw [DN (by rw [e]; decide), DR (by rw [e]; decide), e]
  exact ⟨rfl, H1.right⟩
 ·(try simp only [aG] at h1)
  refine aY (bC 0 underlying202 rfl sizeOf3 rfl (aY (eu underlying3 rfl (H1).get.2 rfl (aY (aU (dB rfl rfl) (fC rfl rfl (aA (aj (aP rfl (fun h2 => ?_) (fun h2 => ?_))))))))))
  ·(try simp only [aG] at h2)
   refine ay (ah (aW rfl (aA (aj (aK (aN (aQ (.inl rfl) results133 rfl ?_)))))))
   have e : nS G N a dl il = 1 := by unfold nS; rw [if_pos (by omega)]
   rw [DN (by rw [e]; decide), DR (by rw [e]; decide), e]
   exact ⟨rfl, H1.right⟩
  ·(try simp only [aG] at h2)
   refine aO (aj (ay (ay ?_)))
   obtain ⟨vZ, tH, jE, jh, iT, oI, mJ, Ag, Ah, EP, kL⟩ := (H1.f2).qj
   refine ah (aI rfl (bQ rfl (bC 0 underlying233 rfl sizeOf231 rfl (bC 3 underlying231 rfl sizeOf3 rfl (eu underlying3 rfl (kL).get.2 rfl (aU (o8 rfl rfl) (aA (aj (aP rfl (fun h3 => ?_) (fun h3 => ?_))))))))))
   ·(try simp only [aG] at h3)
    refine ay (ah (aW rfl (aA (aj (aK (aN (aQ (.inl rfl) results133 rfl ?_)))))))
    have e : nS G N a dl il = 3 := by unfold nS; rw [if_neg (by omega), if_pos (by omega)]
    have XD := kL.f5.f5.f5.f5.f5
    have XE := aB.jw iT oI mJ rfl XD
    rw [DN (by rw [e]; decide), DR (by rw [e]; decide), e]
    exact ⟨rfl, XE.f2.right⟩
   ·(try simp only [aG] at h3)
    refine aO (aj (ay (ah (aI rfl (bQ rfl (bC 0 underlying233 rfl sizeOf231 rfl (bC 3 underlying231 rfl sizeOf3 rfl (eu underlying3 rfl (kL).get.2 rfl (aU (dG rfl rfl (by omega)) (bQ rfl (bC 0 underlying233 rfl sizeOf231 rfl (bC 3 underlying231 rfl sizeOf3 rfl (aJ (aS 3 (l' := [_, _, _, _, _]) kL sizeOf3 rfl rfl (by first | rfl | assumption) rfl rfl) ?_)))))))))))))
    rintro _ w7 H7
    refine aA (aj (ay (ay (ah (aI rfl (bQ rfl (bC 0 underlying233 rfl sizeOf231 rfl (bC 2 underlying231 rfl sizeOf3 rfl (eu underlying3 rfl (H7).get.2 rfl (aU (fB rfl rfl) (aA (aj (aP rfl (fun h4 => ?_) (fun h4 => ?_))))))))))))))
    ·(try simp only [aG] at h4)
     have XF := H7.drew
     have Bf := aB.kp (XF.f6.f6.f6.f6.f6.f6)
     refine wo [5, 6] Bf rfl (gV 0 rfl Bf rfl (gV 1 rfl Bf rfl (iZ 2 rfl Bf rfl (dV 3 rfl Bf 0 underlying233 rfl sizeOf231 rfl (dV 4 rfl Bf 1 underlying231 rfl sizeOf67 rfl (iy 5 rfl Bf (fun W hW => iQ underlying67 rfl ((Kp.h hW)).get.2 rfl) (iy 6 rfl Bf (fun W hW => bV underlying202 rfl sizeOf202 rfl rfl ((Kp.h hW).f6).get.2) (jr 7 rfl (rX rfl func168 (qo XF (fun W HW => hd _ (HW.right.right.right.right.right.right)) (fun W HW => hi _ (HW.right.right.right.right.right.right)) (by omega) (by omega))) ?_))))))))
     rintro _ w8 ⟨d8, s8, rfl, H8⟩
     have Jd := aB.kp (H8.f8.f8.f8.f8.f8.f8.f8.f8)
     refine bW Jd (fun W hW => (Kp.h hW).right.right.f6.f6.f6.f6.f6.f6) ?_
     refine jr 8 rfl (lZ H8 underlying67 sizeOf202 zeroValue202 rfl rfl rfl (by decide) (by decide)) ?_
     rintro l9 w9 H9
     have Qg := aB.kp (H9.f9.f9.f9.f9.f9.f9.f9.f9.f9)
     refine bW Qg (fun W hW => (Kp.h hW).right.f8.f8.f8.f8.f8.f8.f8.f8) ?_
     refine jr 9 rfl (fP H9.f7 underlying67 (show (prog.info? 202).map (fun i => (i.zero, i.size, i.bytes)) = some (some (.agg #[.int .i64 0, .slice none 0 0, .slice none 0 0]), 3, 56) by kernel_rfl) rfl rfl rfl ((H9).aT) (aC (by first | rfl | assumption) (aC (by first | rfl | exact Rd.one ((H9.f2).aT)) (aC (by first | rfl | exact Rd.one ((H9.f3).aT)) bn))) (by omega) (by omega)) ?_
     rintro l10 w10 qL
     have Vt := qL.f2.right
     have ML := aB.kp (Vt.f8.f8.f8.f8.f8.f8.f8.f8)
     refine dR ML (by kernel_rfl) ?_
     refine iZ 10 rfl ML rfl (dV 11 rfl ML 0 underlying233 rfl sizeOf231 rfl (dV 12 rfl ML 1 underlying231 rfl sizeOf67 rfl ?_))
     refine dN 13 rfl (by kernel_rfl) (aS 1 (l' := [_, _, _, _, _]) Vt.f4 sizeOf67 rfl rfl (by first | rfl | exact Rd.one ((Vt).aT)) rfl rfl) ?_
     rintro _ w12 vV
     have zn := aB.kp (vV.f8.f8.f8.f8.f8.f8.f8.f8)
     refine dR zn (by kernel_rfl) ?_
     have hadd : 0 < op := by omega
     refine nJ (aj (ay (ah (aW rfl (aA (aj (aK (aQ (.inl rfl) results133 rfl ?_))))))))
     have e : nS G N a dl il = 0 := by unfold nS; rw [if_neg (by omega), if_neg (by omega)]
     rw [CJ e hadd, CO e hadd, e]
     have X := (vV.f8.right.f6.f6.f3.f7.f5.f7.f7).jy.swap.jy.swap
     have X2 := aB.uD X.f3
     refine ⟨rfl, aB.pI (gv := vZ) (nv := l10) (gs := jE) (now := jh ++ [⟨a, d8, dl, s8, il⟩]) (ed := (eY G N : Nat) + 1) ⟨iT.1, by rw [Gz]; omega, iT.2.2.1, iT.2.2.2.1, iT.2.2.2.2.1, TF iT.2.2.2.2.2 ⟨b2, b3⟩⟩ oI (by rw [List.map_append, mJ]; rfl) (by rw [Gz]; rfl) (X2.of_eq (by unfold zi; ac_rfl))⟩
    ·(try simp only [aG] at h4)
     have Qh := H7.drew
     have sG := aB.kp (Qh.f6.f6.f6.f6.f6.f6)
     refine wo [5, 6] sG rfl (gV 0 rfl sG rfl (gV 1 rfl sG rfl (iZ 2 rfl sG rfl (dV 3 rfl sG 0 underlying233 rfl sizeOf231 rfl (dV 4 rfl sG 0 underlying231 rfl sizeOf180 rfl (iy 5 rfl sG (fun W hW => iQ underlying180 rfl ((Kp.h hW)).get.2 rfl) (iy 6 rfl sG (fun W hW => bV underlying202 rfl sizeOf202 rfl rfl ((Kp.h hW).f6).get.2) (jr 7 rfl (rX rfl func168 (qo Qh (fun W HW => hd _ (HW.right.right.right.right.right.right)) (fun W HW => hi _ (HW.right.right.right.right.right.right)) (by omega) (by omega))) ?_))))))))
     rintro _ O7 ⟨d13, s13, rfl, xQ⟩
     have DT := aB.kp (xQ.f8.f8.f8.f8.f8.f8.f8.f8)
     refine bW DT (fun W hW => (Kp.h hW).right.right.f6.f6.f6.f6.f6.f6) ?_
     refine jr 8 rfl (lZ xQ underlying67 sizeOf202 zeroValue202 rfl rfl rfl (by decide) (by decide)) ?_
     rintro Zt O8 zN
     have Je := aB.kp (zN.f9.f9.f9.f9.f9.f9.f9.f9.f9)
     refine bW Je (fun W hW => (Kp.h hW).right.f8.f8.f8.f8.f8.f8.f8.f8) ?_
     refine jr 9 rfl (jv (vs := [_]) zN underlying180 sizeOf67 zeroValue67 rfl rfl rfl (by decide) (aC (by first | rfl | exact Rd.one ((zN).aT)) bn)) ?_
     rintro l15 Sv xE
     have vW := aB.kp (xE.f10.f10.f10.f10.f10.f10.f10.f10.f10.f10)
     refine bW vW (fun W hW => (Kp.h hW).right.f9.f9.f9.f9.f9.f9.f9.f9.f9) ?_
     refine jr 10 rfl (fP xE.f6 underlying180 (show (prog.info? 67).map (fun i => (i.zero, i.size, i.bytes)) = some (some (.slice none 0 0), 1, 24) by kernel_rfl) rfl rfl rfl ((xE).aT) (aC (by first | rfl | exact Rd.one ((xE.f2).aT)) bn) (by omega) (by omega)) ?_
     rintro YV w16 rV
     have GH := rV.f2.right
     have xR := aB.kp (GH.f9.f9.f9.f9.f9.f9.f9.f9.f9)
     refine dR xR (by kernel_rfl) ?_
     refine iZ 11 rfl xR rfl (dV 12 rfl xR 0 underlying233 rfl sizeOf231 rfl (dV 13 rfl xR 0 underlying231 rfl sizeOf180 rfl ?_))
     refine dN 14 rfl (by kernel_rfl) (aS 0 (l' := [_, _, _, _, _]) GH.f5 sizeOf180 rfl rfl (by first | rfl | exact Rd.one ((GH).aT)) rfl rfl) ?_
     rintro _ Tz Bd
     have zo := aB.kp (Bd.f9.f9.f9.f9.f9.f9.f9.f9.f9)
     refine dR zo (by kernel_rfl) ?_
     have hadd : ¬ 0 < op := by omega
     refine nJ (aj (ay (ah (aW rfl (aA (aj (aK (aQ (.inl rfl) results133 rfl ?_))))))))
     have e : nS G N a dl il = 0 := by unfold nS; rw [if_neg (by omega), if_neg (by omega)]
     rw [Qd e hadd, Qe e hadd, e]
     have X := (Bd.f9.right.f8.f8.f3.f8.f5.f6.f8.f8).jy.swap.jy.swap
     have X2 := aB.uD (es := []) X.DK.f3.f3.f4
     have X4 := aB.uF X2.rH.swap
     refine ⟨rfl, aB.pI (gv := YV) (nv := tH) (gs := jE ++ [(Zt, [⟨a, d13, dl, s13, il⟩])]) (now := jh) (ed := (eY G N : Nat) + 1) ⟨MK iT.1 (List.cons_ne_nil _ _), by rw [Jc]; omega, iT.2.2.1, iT.2.2.2.1, Jb iT.2.2.2.2.1 (by intro e he; rw [List.mem_singleton.1 he]; exact ⟨b2, b3⟩), iT.2.2.2.2.2⟩ (by rw [List.map_append, oI]; rfl) mJ (by rw [Jc]; rfl) (X4.of_eq (by unfold EO; ac_rfl))⟩
end
end Go.Proofs.YtddekefihgejoaaGreatDoor
end
section
namespace Go.Proofs.YtddekefihgejoaaGreatDoor
open Go.RowKit
def GI (P : Program) (l : Nat) (vs : List Value) (w : World) (T : Value → World → Prop) : Prop :=
  ∃ f tmps c d, (Instr.yield l vs.toArray).run P w = .ok (.round l f tmps c d) w ∧ RoundIn Fence.wide 0 P l f tmps c d w fun e w' => ∃ v, e = .returned v ∧ T v w'
theorem GI.mono {P : Program} {l : Nat} {vs : List Value} {w : World} {T T' : Value → World → Prop} (h : GI P l vs w T) (k : ∀ v w', T v w' → T' v w') : GI P l vs w T' :=
  let ⟨f, tmps, c, d, h1, h2⟩ := h; ⟨f, tmps, c, d, h1, RoundIn.mono h2 fun _ _ ⟨v, e, t⟩ => ⟨v, e, k _ _ t⟩⟩
theorem GI.bool {P : Program} {l : Nat} {vs : List Value} {w : World} {A B : World → Prop} (h : GI P l vs w fun v W' => (v = .bool true ∧ A W') ∨ (v = .bool false ∧ B W')) : GI P l vs w fun v W' => ∃ t, v = .bool t ∧ (t = true → A W') ∧ (t = false → B W') :=
  h.mono fun v W' hv => by
    rcases hv with ⟨rfl, h⟩ | ⟨rfl, h⟩
    · exact ⟨true, rfl, fun _ => h, fun e => by cases e⟩
    · exact ⟨false, rfl, (fun e => by cases e), fun _ => h⟩
theorem CP {P : Program} {L : List (Nat × Value)} {w : World} {ty : TypeId} {x : Operand} {args : List Operand} {ts : Array TypeId} {l : Nat} {vs : List Value} {T : Value → World → Prop} (hx : ev L x = some (.func (.yield l) #[] #[])) (ha : zT L args = some vs) (h : GI P l vs w T) :
    rU P L (.call ⟨.value x, args.toArray, ts⟩) ty w T := by
  obtain ⟨f, tmps, c, d, hy, hr⟩ := h
  refine SK (fun ρ hρ dd pos lH g => ?_) hr
  have hg := hρ _ _ hx
  simp [execOp, resolve, invoke, WX hρ _ _ ha, hg, Deferred.ofValue, hy]
def Iter (P : Program) (w0 : World) (fv : Value) (R : HP) (n : Nat) (E : Nat → List Value → HP → Prop) : Prop :=
  ∀ (l : Nat) (J : Nat → HP) (X : HP) (w : World),
    (∀ k, k < n → ∀ vs A, E k vs A → ∀ G W, aB w0 W (A • J k • G) → GI P l vs W fun v W' => (v = .bool true ∧ aB w0 W' (J (k + 1) • G)) ∨ (v = .bool false ∧ aB w0 W' (X • G))) →
    aB w0 w (J 0 • R) → UC P fv [.func (.yield l) #[] #[]] w fun _ W' => aB w0 W' (J n • R) ∨ aB w0 W' (X • R)
def Jf (w0 : World) (I : HP) (Xr : HP) (Xe : Nat → HP) (G : HP) : Exit → Act → World → Prop
  | .normal, _, W => aB w0 W (I • G)
  | .ret, _, W => aB w0 W (Xr • G)
  | .exit id, _, W => aB w0 W (Xe id • G)
  | _, _, _ => False
def MN (P : Program) (N : Sh) (w0 : World) (body : Code) (I : HP) (Xr : HP) (Xe : Nat → HP) (G : HP) (a : Act) (W : World) : Prop :=
  ∃ (L : List (Nat × Value)) (B : HP), Fits N L a ∧ aB w0 W (B • G) ∧ ∀ G' W', aB w0 W' (B • G') → WC P N body (Jf w0 I Xr Xe G') L W'
def Qi : Exit → Act → World → Prop := fun _ _ _ => False
theorem GK {P : Program} {N : Sh} {w0 w : World} {body : Code} {I Xr : HP} {Xe : Nat → HP} {G B : HP} {L : List (Nat × Value)} (H : aB w0 w (B • G)) (h : ∀ G' W', aB w0 W' (B • G') → WC P N body (Jf w0 I Xr Xe G') L W') :
    WQ N (Exit.then (MN P N w0 body I Xr Xe G) Qi) .normal L w := fun _ a ha => ⟨L, B, ha, H, h⟩
theorem yx {N : Sh} {w0 w : World} {I Xr : HP} {Xe : Nat → HP} {G : HP} {L : List (Nat × Value)} (H : aB w0 w (I • G)) : WQ N (Jf w0 I Xr Xe G) .normal L w := fun _ _ _ => H
theorem Qj {N : Sh} {w0 w : World} {I Xr : HP} {Xe : Nat → HP} {G : HP} {id : Nat} {L : List (Nat × Value)} (H : aB w0 w (Xe id • G)) : WQ N (Jf w0 I Xr Xe G) (.exit id) L w := fun _ _ _ => H
theorem Qk {w0 : World} {I Xr : HP} {Xe : Nat → HP} {G : HP} : NP (Jf w0 I Xr Xe G) := fun _ _ _ h => h
def Jg : List Nat → List Value → List (Nat × Value) → List (Nat × Value)
  | [], _, L => L
  | _ :: _, [], L => L
  | p :: ps, v :: vs, L => Jg ps vs ((p, v) :: L)
theorem Jh {n l : Nat} : ∀ (ps : List Nat) (vs : List Value) (L : List (Nat × Value)) (tmps : Array Value), (∀ p ∈ ps, p < n) → Fits ⟨n, [], some l⟩ L { tmps := tmps, defers := [] } →
    Fits ⟨n, [], some l⟩ (Jg ps vs L) { tmps := (ps.zip vs).foldl (fun t (p : Nat × Value) => t.setIfInBounds p.1 p.2) tmps, defers := [] }
  | [], _, _, _, _, h => h
  | _ :: _, [], _, _, _, h => h
  | p :: ps, v :: vs, L, tmps, hp, h => Jh ps vs _ _ (fun q hq => hp q (by simp [hq])) (h.put (hp p (by simp)) v)
section
variable {P : Program} {N : Sh} {Q : Exit → Act → World → Prop} {L : List (Nat × Value)} {w0 w : World}
theorem qp {g : Operand} {ps : List Nat} {assign body : Code} {fv : Value} {R : HP} {n : Nat} {E : Nat → List Value → HP → Prop} (hg : ev L g = some fv) (hit : Iter P w0 fv R n E) (I : Nat → HP) (Xr : HP) (Xe : Nat → HP) (H : aB w0 w (I 0 • R))
    (hps : ps.all (· < N.n) = true)
    (hbody : ∀ l k, k < n → ∀ vs A, E k vs A → ∀ G W, aB w0 W (A • I k • G) → vs.length = ps.length ∧ WC P ⟨N.n, [], some l⟩ assign (Exit.then (MN P ⟨N.n, [], some l⟩ w0 body (I (k + 1)) Xr Xe G) Qi) (Jg ps vs L) W)
    (hdone : ∀ D W, aB w0 W (dh D (.deferred (some [])) • I n • R) → WQ ⟨N.n, D :: N.ds, none⟩ Q .normal L W)
    (hret : ∀ D W, aB w0 W (dh D (.deferred (some [])) • Xr • R) → WQ ⟨N.n, D :: N.ds, none⟩ Q .ret L W)
    (XG : ∀ id D W, aB w0 W (dh D (.deferred (some [])) • Xe id • R) → WQ ⟨N.n, D :: N.ds, none⟩ Q (.exit id) L W)
    (hro : N.ro = none := by rfl) : WC P N (.rangeFunc g ps.toArray assign body) Q L w := fun np a ha => by
  rw [hro]
  refine wpIn_rangeFunc fun fn _ => ?_
  let oh : LoopState → Option Code → Loop := fun s j => { state := s, pending := j, fn, tmps := a.tmps, params := ps.toArray, assign, body, defers := w.heap.size }
  have Zu := run_enterLoop_outer (P := P) (w := w) fn a.tmps ps.toArray assign body
  have H1 : aB w0 ((w.alloc (.deferred (some []))).alloc (.loop (oh .ready none))) (dh (w.heap.size + 1) (.loop (oh .ready none)) • dh w.heap.size (.deferred (some [])) • I 0 • R) := by
    have := (H.alloc (.deferred (some []))).alloc (.loop (oh .ready none))
    rw [World.size_alloc] at this
    exact this
  let Lk : LoopState → Option Code → HP := fun s j => dh (w.heap.size + 1) (.loop (oh s j)) • dh w.heap.size (.deferred (some []))
  have Vu : ∀ k, k < n → ∀ vs A, E k vs A → ∀ G W, aB w0 W (A • (Lk .ready none • I k) • G) → GI P (w.heap.size + 1) vs W fun v W' => (v = .bool true ∧ aB w0 W' ((Lk .ready none • I (k + 1)) • G)) ∨
      (v = .bool false ∧ aB w0 W' (qN (fun c : Code => Lk .done (some c) • (match c with | .ret => Xr | .exit id => Xe id | _ => fact False)) • G)) := by
    intro k hk vs A hE G W HW
    have e1 : (A • (Lk .ready none • I k) • G) = (dh (w.heap.size + 1) (.loop (oh .ready none)) • A • I k • dh w.heap.size (.deferred (some [])) • G) := by
      show (A • ((dh (w.heap.size + 1) (.loop (oh .ready none)) • dh w.heap.size (.deferred (some []))) • I k) • G) = _
      ac_rfl
    have HW1 := HW.of_eq e1
    have hl := HW1.get.2
    have hlen := (hbody (w.heap.size + 1) k hk vs A hE _ W (HW1.of_eq (show _ = (A • I k • dh (w.heap.size + 1) (.loop (oh .ready none)) • dh w.heap.size (.deferred (some [])) • G) by ac_rfl))).1
    refine ⟨fn, _, assign, body, run_yield hl (by rw [List.size_toArray, hlen]; exact List.size_toArray.symm), ?_⟩
    have hfit : Fits ⟨N.n, [], some (w.heap.size + 1)⟩ (Jg ps vs L) { tmps := (ps.toArray.zip vs.toArray).foldl (fun tmps (t, a) => tmps.setIfInBounds t a) a.tmps, defers := [] } := by
      have := Jh (n := N.n) (l := w.heap.size + 1) ps vs L a.tmps (fun p hp => by simpa using List.all_eq_true.1 hps p hp) ⟨ha.size, rfl, ha.at_⟩
      simpa using this
    refine roundIn_of_wpIn trivial ?_
    have HW2 : aB w0 W (A • I k • dh (w.heap.size + 1) (.loop (oh .ready none)) • dh w.heap.size (.deferred (some [])) • G) := HW1.of_eq (by ac_rfl)
    have hb := (hbody (w.heap.size + 1) k hk vs A hE _ W HW2).2 (fun c a w h => h) _ hfit
    refine wpIn_mono hb ?_
    rintro e a1 W1 hq
    cases e with
    | exit id => exact hq.elim
    | goto l => exact hq.elim
    | ret => exact hq.elim
    | panic c => exact hq.elim
    | outgrown => exact hq.elim
    | normal =>
      obtain ⟨L1, B, hf1, HB, hgo⟩ := hq
      have HB1 : aB w0 W1 (dh (w.heap.size + 1) (.loop (oh .ready none)) • B • dh w.heap.size (.deferred (some [])) • G) := HB.of_eq (by ac_rfl)
      have hl1 := HB1.get.2
      refine ⟨_, run_beginRound hl1 rfl, ?_⟩
      have HB2 : aB w0 (W1.putObj (w.heap.size + 1) (.loop (oh .busy none))) (dh (w.heap.size + 1) (.loop (oh .busy none)) • B • dh w.heap.size (.deferred (some [])) • G) := HB1.turn rfl rfl rfl (by simp) (World.putObj_heap_same HB1.lt) fun k hk _ => World.putObj_heap_other hk
      have hbd := hgo (dh (w.heap.size + 1) (.loop (oh .busy none)) • dh w.heap.size (.deferred (some [])) • G) _ (HB2.of_eq (by ac_rfl)) Qk a1 hf1
      refine wpIn_mono hbd ?_
      have fin : ∀ (j : Option Code) (W3 : World) (A3 : HP), aB w0 W3 (A3 • dh (w.heap.size + 1) (.loop (oh .busy none)) • dh w.heap.size (.deferred (some [])) • G) →
          (Instr.endRound (w.heap.size + 1) j).run P W3 = .ok (.bool j.isNone) (W3.putObj (w.heap.size + 1) (.loop (oh (if j.isNone then .ready else .done) j))) ∧
          aB w0 (W3.putObj (w.heap.size + 1) (.loop (oh (if j.isNone then .ready else .done) j))) ((Lk (if j.isNone then .ready else .done) j • A3) • G) := by
        intro j W3 A3 H3
        have H4 := H3.swap
        refine ⟨run_endRound j H4.get.2, ?_⟩
        have H5 : aB w0 (W3.putObj (w.heap.size + 1) (.loop (oh (if j.isNone then .ready else .done) j))) (dh (w.heap.size + 1) (.loop (oh (if j.isNone then .ready else .done) j)) • A3 • dh w.heap.size (.deferred (some [])) • G) := H4.turn rfl rfl rfl (by simp) (World.putObj_heap_same H4.lt) fun k hk _ => World.putObj_heap_other hk
        refine H5.of_eq ?_
        show _ = (((dh (w.heap.size + 1) (.loop (oh (if j.isNone then .ready else .done) j)) • dh w.heap.size (.deferred (some []))) • A3) • G)
        ac_rfl
      rintro e a3 W3 hp
      cases e with
      | normal => obtain ⟨h1, h2⟩ := fin none W3 _ hp; exact ⟨_, _, h1, _, rfl, .inl ⟨rfl, h2⟩⟩
      | ret => obtain ⟨h1, h2⟩ := fin (some .ret) W3 _ hp; exact ⟨_, _, h1, _, rfl, .inr ⟨rfl, aB.gK .ret h2⟩⟩
      | exit id => obtain ⟨h1, h2⟩ := fin (some (.exit id)) W3 _ hp; exact ⟨_, _, h1, _, rfl, .inr ⟨rfl, aB.gK (.exit id) h2⟩⟩
      | goto l => exact hp.elim
      | panic c => exact hp.elim
      | outgrown => exact hp.elim
  have hcall := hit (w.heap.size + 1) (fun k => Lk .ready none • I k) _ _ Vu (H1.of_eq (by
    show _ = (((dh (w.heap.size + 1) (.loop (oh .ready none)) • dh w.heap.size (.deferred (some []))) • I 0) • R)
    ac_rfl))
  obtain ⟨f, first, cap, fn', c, rfl, hf, hn, hb, XH⟩ := hcall
  refine ⟨w.heap.size + 1, _, _, { target := .fn (.func f) cap.toArray, args := (first ++ [Value.func (.yield (w.heap.size + 1)) #[] #[]]).toArray }, (w.alloc (.deferred (some []))).alloc (.loop (oh .ready none)), f, _, (w.alloc (.deferred (some []))).alloc (.loop (oh .ready none)), Zu, ?_, fun _ _ => trivial, ?_, (fun h => by cases h), Ph.2 (Calls.mono XH ?_)⟩
  · have he := ha.ev hg
    have he2 : a.eval (.const (.func (.yield (w.heap.size + 1)) #[] #[])) = .func (.yield (w.heap.size + 1)) #[] #[] := rfl
    simp [resolve, rangeCall, he, he2, Deferred.ofValue, oh]
  · simp [invoke, callFunc, hf, hb]
    simpa using hn
  · rintro e W2 ⟨v, rfl, hv⟩
    have fin : ∀ (s : LoopState) (j : Option Code) (A : HP), s ≠ .busy → aB w0 W2 ((Lk s j • A) • R) → (Instr.endLoop (w.heap.size + 1)).run P W2 = .ok j (W2.putObj (w.heap.size + 1) (.loop (oh .exhausted j))) ∧
        aB w0 (W2.putObj (w.heap.size + 1) (.loop (oh .exhausted j))) (dh w.heap.size (.deferred (some [])) • A • R) := by
      intro s j A hs H3
      have H4 : aB w0 W2 (dh (w.heap.size + 1) (.loop (oh s j)) • dh w.heap.size (.deferred (some [])) • A • R) := H3.of_eq (by
        show (((dh (w.heap.size + 1) (.loop (oh s j)) • dh w.heap.size (.deferred (some []))) • A) • R) = _
        ac_rfl)
      refine ⟨run_endLoop H4.get.2 hs, ?_⟩
      have H5 : aB w0 (W2.putObj (w.heap.size + 1) (.loop (oh .exhausted j))) (dh (w.heap.size + 1) (.loop (oh .exhausted j)) • dh w.heap.size (.deferred (some [])) • A • R) := H4.turn rfl rfl rfl (by simp) (World.putObj_heap_same H4.lt) fun k hk _ => World.putObj_heap_other hk
      exact H5.right
    have hfit : Fits ⟨N.n, w.heap.size :: N.ds, none⟩ L { a with defers := [{ target := .collected w.heap.size, args := #[] }] ++ a.defers } := ⟨ha.size, by simp [ha.defers, Pg], ha.at_⟩
    rcases hv with hv | hv
    · obtain ⟨h1, h2⟩ := fin _ _ _ (by decide) hv
      exact ⟨none, _, h1, hdone _ _ h2 np _ hfit⟩
    · obtain ⟨c, hv⟩ := hv.lD
      obtain ⟨h1, h2⟩ := fin _ _ _ (by decide) hv
      cases c with
      | ret => exact ⟨some .ret, _, h1, wpIn_ret (hret _ _ h2 np _ hfit)⟩
      | exit id => exact ⟨some (.exit id), _, h1, wpIn_exit (XG id _ _ h2 np _ hfit)⟩
      | _ => exact absurd h2.swap.fact.1 id
end
end Go.Proofs.YtddekefihgejoaaGreatDoor
end
section
namespace Go.Proofs.YtddekefihgejoaaGreatDoor
open Go.RowKit
open _root_.Go.Proofs.Tryz
def jq (G : List (List fJ)) (N : List fJ) : List (List fJ) := if N = [] then G else G ++ [N]
theorem KW {G : List (List fJ)} {N : List fJ} (h : N = []) : jq G N = G := by unfold jq; rw [if_pos h]
theorem mg {G : List (List fJ)} {N : List fJ} (h : N ≠ []) : jq G N = G ++ [N] := by unfold jq; rw [if_neg h]
theorem DU {G : List (List fJ)} {N : List fJ} : eY (jq G N) [] = eY G N := by
  unfold jq; split
  · rename_i h; rw [h]
  · simp [eY]
section
variable {w0 w : World} {F : HP} {p : Nat} {G : List (List fJ)} {N : List fJ} {op : Int} {gv nv v : Value} {gs : List (Value × List dw)} {now es : List dw} {a : Int} {d z : Value} {dl il : List Int}
theorem wK (H : aB w0 w (dX p G N op • F)) : gG prog 166 #[.pointer (some ⟨p, 0, none⟩)] w fun _ w' => aB w0 w' (dX p (jq G N) [] 0 • F) := by
 refine iF func166 ntmps166 ?_
 dsimp only [bg, Nat.reduceAdd]
 refine ay (ay ?_)
 obtain ⟨vZ, tH, jE, jh, iT, oI, mJ, Ag, Ah, EP, kL⟩ := (H).qj
 refine ah (aI rfl (bQ rfl (bC 0 underlying233 rfl sizeOf231 rfl (bC 1 underlying231 rfl sizeOf67 rfl (eu underlying67 rfl (kL).get.2 rfl (aU (eX ((kL.f4).aT) underlying67 rfl) (aU (fB rfl rfl) (aA (aj (aP rfl (fun h1 => ?_) (fun h1 => ?_)))))))))))
 ·(try simp only [aG] at h1)
  have XI : 0 < jh.length := by omega
  have Ol := kL.drew
  have iV := aB.kp (Ol.f5.f5.f5.f5.f5)
  refine wo [5, 10] iV rfl (gV 0 rfl iV rfl (gV 1 rfl iV rfl (iZ 2 rfl iV rfl (dV 3 rfl iV 0 underlying233 rfl sizeOf231 rfl (dV 4 rfl iV 0 underlying231 rfl sizeOf180 rfl (iy 5 rfl iV (fun W hW => iQ underlying180 rfl ((Kp.h hW)).get.2 rfl) (gV 6 rfl iV rfl (iZ 7 rfl iV rfl (dV 8 rfl iV 0 underlying233 rfl sizeOf231 rfl (dV 9 rfl iV 1 underlying231 rfl sizeOf67 rfl (iy 10 rfl iV (fun W hW => iQ underlying67 rfl ((Kp.h hW)).get.2 rfl) (jr 11 rfl (jv (vs := [_]) Ol underlying180 sizeOf67 zeroValue67 rfl rfl rfl (by decide) (aC (by first | rfl | exact Rd.one ((Ol.f4).aT)) bn)) ?_))))))))))))
  rintro l2 w2 H2
  have zq := aB.kp (H2.f6.f6.f6.f6.f6.f6)
  refine bW zq (fun W hW => (Kp.h hW).right.f5.f5.f5.f5.f5) ?_
  refine jr 12 rfl (fP H2.f3 underlying180 (show (prog.info? 67).map (fun i => (i.zero, i.size, i.bytes)) = some (some (.slice none 0 0), 1, 24) by kernel_rfl) rfl rfl rfl ((H2).aT) (aC (by first | rfl | exact Rd.one ((H2.f5).aT)) bn) (by omega) (by omega)) ?_
  rintro l3 w3 H3
  have Zv := H3.f2.right
  have uz := aB.kp (Zv.f5.f5.f5.f5.f5)
  refine dR uz (by kernel_rfl) ?_
  refine iZ 13 rfl uz rfl (dV 14 rfl uz 0 underlying233 rfl sizeOf231 rfl (dV 15 rfl uz 0 underlying231 rfl sizeOf180 rfl ?_))
  refine dN 16 rfl (by kernel_rfl) (aS 0 (l' := [_, _, _, _, _]) Zv.f2 sizeOf180 rfl rfl (by first | rfl | exact Rd.one ((Zv).aT)) rfl rfl) ?_
  rintro _ w5 H5
  have uG := aB.kp (H5.f5.f5.f5.f5.f5)
  refine dR uG (by kernel_rfl) ?_
  refine nJ (aj (ah (aI rfl (aI rfl (bQ rfl (bC 0 underlying233 rfl sizeOf231 rfl (bC 1 underlying231 rfl sizeOf67 rfl (aJ (aS 1 (l' := [_, _, _, _, _]) H5 sizeOf67 rfl rfl (by first | rfl | assumption) rfl rfl) ?_))))))))
  rintro _ w6 H6
  refine bQ rfl (bC 0 underlying233 rfl sizeOf231 rfl (bC 2 underlying231 rfl sizeOf3 rfl (aJ (aS 2 (l' := [_, _, _, _, _]) H6 sizeOf3 rfl rfl (by first | rfl | assumption) rfl rfl) ?_)))
  rintro _ w7 H7
  refine aA (gB (.inr rfl) results166 ?_)
  have hN : N ≠ [] := by rintro rfl; exact absurd Ah (by simp only [List.length_nil]; omega)
  rw [mg hN]
  have X := aB.rH (v := tH) (es := jh) (H7.f3.f3.f5.f5).deep
  have X4 := aB.uF X.swap
  refine aB.pI (gv := l3) (nv := .slice none 0 0) (gs := jE ++ [(tH, jh)]) (now := []) (ed := (eY G N : Nat)) ⟨MK iT.1 hN, by rw [← mg hN, DU]; exact iT.2.1, by decide, by decide, Jb iT.2.2.2.2.1 iT.2.2.2.2.2, by simp⟩ (by rw [List.map_append, oI, ← mJ]; rfl) rfl (by rw [← mg hN, DU]) ((X4.oU none).of_eq (by ac_rfl))
 ·(try simp only [aG] at h1)
  have XI : jh.length = 0 := by omega
  refine aO (aj (ah (aI rfl (aI rfl (bQ rfl (bC 0 underlying233 rfl sizeOf231 rfl (bC 1 underlying231 rfl sizeOf67 rfl (aJ (aS 1 (l' := [_, _, _, _, _]) kL sizeOf67 rfl rfl (by first | rfl | assumption) rfl rfl) ?_))))))))
  rintro _ w8 H8
  refine bQ rfl (bC 0 underlying233 rfl sizeOf231 rfl (bC 2 underlying231 rfl sizeOf3 rfl (aJ (aS 2 (l' := [_, _, _, _, _]) H8 sizeOf3 rfl rfl (by first | rfl | assumption) rfl rfl) ?_)))
  rintro _ w9 H9
  refine aA (gB (.inr rfl) results166 ?_)
  have hN : N = [] := by rw [← mJ, List.eq_nil_of_length_eq_zero XI]; rfl
  subst hN
  rw [KW rfl]
  refine aB.pI (gv := vZ) (nv := .slice none 0 0) (gs := jE) (now := []) (ed := (eY G [] : Nat)) ⟨iT.1, iT.2.1, by decide, by decide, iT.2.2.2.2⟩ oI rfl rfl (((H9.f4.right.f4.right.f3.f3).oU none).of_eq (by unfold zi; ac_rfl))
theorem aB.GL (H : aB w0 w (zQ v es • F)) : aB w0 w (zQ v es • zQ v es • F) := H.yM
theorem Om (b : Nat) : Iter prog w0 (.func (.func 182) #[] #[.pointer (some ⟨b, 0, none⟩)]) (dh b (.cells #[v] 67 (0, 0)) • zQ v es) es.length
  (fun k vs A => vs = [.int .i64 ((es.length - (k + 1) : Nat) : Int), .agg (es.getD (es.length - (k + 1)) default).enc.toArray] ∧ A = zQ v es) := by
 intro l J X w hy H
 refine ⟨182, [], [.pointer (some ⟨b, 0, none⟩)], _, _, rfl, func182, rfl, rfl, ?_⟩
 have H1 : aB w0 w (dh b (.cells #[v] 67 (0, 0)) • zQ v es • J 0) := H.of_eq (by ac_rfl)
 obtain ⟨a, c, hv, hc1, hc2, _⟩ := (H1.swap.yw).form
 subst hv
 simp only [List.nil_append, List.cons_append]
 refine iF func182 ntmps182 ?_
 dsimp only [bg, Nat.reduceAdd]
 refine ay (ah (eu underlying67 rfl (H1).get.2 rfl (aU (eX ((H1.f2).yw) underlying67 rfl) (aU (je rfl rfl (by omega)) (aW rfl (aA (aj (bf ?_))))))))
 refine eP [(0, _), (1, _)] (fun (k : Nat) => [(3, .int .i64 ((k : Int) - 1))]) (fun (k : Nat) W => k ≤ es.length ∧ aB w0 W (dh b (.cells #[.slice a es.length c] 67 (0, 0)) • zQ (.slice a es.length c) es • J (es.length - k))) (fun (k : Nat) => k) (es.length) (Sub.cons rfl (Sub.cons rfl (Sub.nil _))) (Sub.cons rfl (Sub.nil _)) ⟨by omega, by rw [Nat.sub_self]; exact H1⟩ ?_
 rintro k w1 ⟨hk, HL⟩
 dsimp only [List.cons_append, List.nil_append]
 refine ay (ay (ah (aI rfl (aU (o8 rfl rfl) (aA (aj (aP rfl (fun h1 => ?_) (fun h1 => ?_))))))))
 ·(try simp only [aG] at h1)
  try (exfalso; first | contradiction | omega)
  all_goals
   refine aO (aj (ay (bf (ay ?_))))
   obtain ⟨m, rfl⟩ : ∃ m, k = m + 1 := ⟨k - 1, by omega⟩
   rw [show (((m + 1 : Nat) : Int) - 1) = (m : Int) from by omega]
   refine ah (aI rfl (aI rfl (eu underlying67 rfl (HL).get.2 rfl (aI rfl ?_))))
   obtain ⟨bv, ov, cv, ev⟩ := Rd.kV ((HL.f2).yw) (by omega)
   cases ev
   refine aU (bY underlying67 sizeOf202 rfl rfl (by omega)) (aU (jf (ys := [_, _, _]) ((HL.f2).yw) (by omega) underlying202 rfl sizeOf202 rfl (kC dw.zf (by omega) default) rfl) (iw (CP rfl rfl (hy (es.length - (m + 1)) (by omega) _ _ ⟨by rw [show es.length - (es.length - (m + 1) + 1) = m from by omega]; rfl, rfl⟩ (zQ (.slice (some ⟨bv, ov, none⟩) es.length c) es • dh b (.cells #[.slice (some ⟨bv, ov, none⟩) es.length c] 67 (0, 0))) _ (HL.swap.GL.of_eq (by ac_rfl))).bool) ?_))
   rintro _ w2 ⟨t, rfl, ht1, ht2⟩
   refine aU (gQ rfl) (aA (aj (aP rfl (fun h2 => ?_) (fun h2 => ?_))))
   ·(try simp only [aG] at h2)
    try (exfalso; first | contradiction | omega)
    all_goals
     have HX := ht2 (by simpa using h2)
     refine aK (aX (aN (aN (aX (gB (.inl rfl) results182 ?_)))))
     exact .inr (HX.of_eq (by ac_rfl))
   ·(try simp only [aG] at h2)
    try (exfalso; first | contradiction | omega)
    all_goals
     have HN : aB w0 w2 (dh b (.cells #[.slice (some ⟨bv, ov, none⟩) es.length c] 67 (0, 0)) • zQ (.slice (some ⟨bv, ov, none⟩) es.length c) es • J (es.length - m)) := by
      have h9 := ht1 (by simpa using h2)
      rw [show es.length - (m + 1) + 1 = es.length - m from by omega] at h9
      exact h9.of_eq (by ac_rfl)
     refine aO (aH (aj (ah (aI rfl (aU (je rfl rfl (by omega)) (aW rfl (aA ?_)))))))
     refine cO (m) ?_ ?_ ?_ ?_
     ·exact (Sub.cons rfl (Sub.nil _))
     ·exact (Sub.cons rfl (Sub.cons rfl (Sub.nil _)))
     ·(try dsimp only)
      first | done | exact ⟨by omega, HN.f2.f2⟩
     ·(try dsimp only); omega
 ·(try simp only [aG] at h1)
  try (exfalso; first | contradiction | omega)
  all_goals
   refine dK (aV (aV (bD (gB (.inr rfl) results182 ?_))))
   obtain rfl : k = 0 := by omega
   rw [Nat.sub_zero] at HL
   exact .inl (HL.of_eq (by ac_rfl))
end
end Go.Proofs.YtddekefihgejoaaGreatDoor
end
section
namespace Go.Proofs.YtddekefihgejoaaGreatDoor
open Go.RowKit
open _root_.Go.Proofs.Tryz
def DV (e : fJ) : fJ := (e.1, e.2.2, e.2.1)
def Ql (c : Nat) (es : List dw) (k : Nat) : HP := qN fun (x : Value × List dw) => fact (x.2.map dw.says = ((es.map dw.says).reverse.take k).map DV) • dh c (.cells #[x.1] 67 (0, 0)) • EO x.1 x.2
theorem Qm {es : List dw} {k : Nat} (hk : k < es.length) : ((es.map dw.says).reverse.take (k + 1)).map DV = ((es.map dw.says).reverse.take k).map DV ++ [DV (es.getD (es.length - (k + 1)) default).says] := by
  rw [List.take_succ_eq_append_getElem (by simpa using hk), List.map_append]
  congr 1
  simp only [List.map_cons, List.map_nil, List.getElem_reverse, List.getElem_map, List.length_map]
  rw [List.getD_eq_getElem?_getD, List.getElem?_eq_getElem (by omega)]
  have e : es.length - 1 - k = es.length - (k + 1) := by omega
  simp only [Option.getD_some, e]
section
variable {w0 w : World} {F : HP} {p : Nat} {G : List (List fJ)} {N : List fJ} {op : Int} {gv nv v : Value} {gs : List (Value × List dw)} {now es : List dw} {a : Int} {d z : Value} {dl il : List Int}
theorem aB.Ji {c k : Nat} (H : aB w0 w (Ql c es k • F)) : ∃ u fs, fs.map dw.says = ((es.map dw.says).reverse.take k).map DV ∧ fs.length ≤ es.length ∧ aB w0 w (dh c (.cells #[u] 67 (0, 0)) • Row 202 3 u fs.length (fs.flatMap dw.enc) • jo fs • F) := by
  obtain ⟨⟨u, fs⟩, H⟩ := H.lD
  obtain ⟨h, H⟩ := H.flat.fact
  refine ⟨u, fs, h, ?_, ?_⟩
  · have := congrArg List.length h
    simp at this
    omega
  · have := H.flat
    unfold EO at this
    exact this.of_eq (by ac_rfl)
theorem aB.Qn {c k : Nat} {u : Value} {fs : List dw} (h : fs.map dw.says = ((es.map dw.says).reverse.take k).map DV) (H : aB w0 w (dh c (.cells #[u] 67 (0, 0)) • EO u fs • F)) : aB w0 w (Ql c es k • F) :=
  aB.gK (u, fs) (aB.deep (aB.jP h H.deep))
theorem aB.Vw (H : aB w0 w (zQ v es • F)) {k : Nat} (hk : k < es.length) : aB w0 w (pU .i32 (es.getD k default).d (es.getD k default).dl • pU .i32 (es.getD k default).i (es.getD k default).il • zQ v es • F) := by
  have h1 : aB w0 w (pU .i32 (es.getD k default).d (es.getD k default).dl • zQ v es • zQ v es • F) := H.GL.GL.EH (qZ (fun I h => (h.2 k hk).1) _)
  have h2 : aB w0 w (pU .i32 (es.getD k default).i (es.getD k default).il • pU .i32 (es.getD k default).d (es.getD k default).dl • zQ v es • F) := h1.swap.EH (qZ (fun I h => (h.2 k hk).2) _)
  exact h2.swap
theorem Qo (H : aB w0 w F) (hv : v.oneCell' = true) : gG prog 177 #[v] w fun v' w' => ∃ b, v' = .func (.func 182) #[] #[.pointer (some ⟨b, 0, none⟩)] ∧ aB w0 w' (dh b (.cells #[v] 67 (0, 0)) • F) := by
 refine iF func177 ntmps177 ?_
 dsimp only [bg, Nat.reduceAdd]
 refine ay (ah (iw (jd (l := [_]) H rfl (by first | rfl | exact wX (by first | rfl | assumption))) ?_))
 rintro _ w1 ⟨b1, rfl, H1⟩
 refine aW rfl (aA (aj (ay (ah (aU (qR rfl rfl) (aW rfl (aA (aj (aK (aQ (.inl rfl) results177 rfl ?_))))))))))
 exact ⟨_, rfl, H1⟩
theorem zu (H : aB w0 w (zQ v es • F)) (hB : ∀ k, k < es.length → EB (es.getD k default).says) (hL : es.length ≤ 16384) :
  gG prog 167 #[v] w fun v' w' => ∃ fs : List dw, fs.map dw.says = (es.map dw.says).reverse.map DV ∧ aB w0 w' (Row 202 3 v' fs.length (fs.flatMap dw.enc) • jo fs • zQ v es • F) := by
 refine iF func167 ntmps167 ?_
 dsimp only [bg, Nat.reduceAdd]
 refine ay (ah (aW rfl (aA (aj (ay (ah (iw (cZ (l := [_]) H zeroValue67 rfl) ?_)))))))
 rintro _ w1 ⟨b1, rfl, H1⟩
 refine aA (aj (ay (ay (ah (aI rfl (dH rfl func177 (Qo H1 (Rd.one ((H1.f2).yw))) ?_))))))
 rintro _ w2 ⟨bB2, rfl, H2⟩
 refine aA (aj (bf ?_))
 have Zw := H2.f2
 have Zx := aB.Qn (es := es) (k := 0) (fs := []) rfl (Zw.oU none).swap
 refine qp rfl (Om bB2) (fun k => Ql b1 es k • F) (fact False) (fun _ => fact False) (Zx.f3.f3.f3.f3.f3.g2.comm) (by rfl) ?_ ?_ ?_ ?_
 ·rintro l5 k TI vs5 A5 ⟨rfl, rfl⟩ G5 w5 H5
  try simp only [bI, ji, nC] at H5
  refine ⟨rfl, ?_⟩
  dsimp only [Jg]
  have Hq := (H5).Vw (k := es.length - (k + 1)) (by omega)
  obtain ⟨hb1, hb2⟩ := hB (es.length - (k + 1)) (by omega)
  have hb1 : (es.getD (es.length - (k + 1)) default).dl.length ≤ 35184372087808 := hb1
  have hb2 : (es.getD (es.length - (k + 1)) default).il.length ≤ 35184372087808 := hb2
  obtain ⟨u, fs, hfs, hfl, HI⟩ := (Hq.f4).Ji
  refine ah (iw (cZ (l := [_, _, _]) HI zeroValue202 rfl) ?_)
  rintro _ w6 ⟨b6, rfl, H6⟩
  refine aJ (bG 0 (l' := [_, _, _]) (us := [_, _, _]) H6 sizeOf202 rfl rfl rfl (aC (by first | rfl | assumption) (aC (by first | rfl | exact Rd.one ((H6.f5).jH)) (aC (by first | rfl | exact Rd.one ((H6.f6).jH)) bn))) rfl rfl) ?_
  rintro _ w7 H7
  refine aA ?_
  refine GK (H7.g8) ?_
  intro G8 w8 H8
  try simp only [bI] at H8
  refine bf ?_
  have XJ := H8.drew
  have Qp := aB.kp (XJ.f7.f7.f7.f7.f7.f7.f7)
  refine wo [0, 1] Qp rfl (iy 0 rfl Qp (fun W hW => iQ underlying67 rfl ((Kp.h hW).f2).get.2 rfl) (iy 1 rfl Qp (fun W hW => bV underlying202 rfl sizeOf202 rfl rfl ((Kp.h hW)).get.2) (jr 2 rfl (rX rfl func178 (Af XJ (fun W HW => (HW.f5).jH) (fun W HW => (HW.f6).jH) (by omega) (by omega))) ?_)))
  rintro _ w9 ⟨d9, s9, rfl, H9⟩
  have Qg := aB.kp (H9.f9.f9.f9.f9.f9.f9.f9.f9.f9)
  refine bW Qg (fun W hW => (Kp.h hW).right.right.f7.f7.f7.f7.f7.f7.f7) ?_
  refine jr 3 rfl (lZ H9 underlying67 sizeOf202 zeroValue202 rfl rfl rfl (by decide) (by decide)) ?_
  rintro l10 w10 qL
  have Qq := aB.kp (qL.f10.f10.f10.f10.f10.f10.f10.f10.f10.f10)
  refine bW Qq (fun W hW => (Kp.h hW).right.f9.f9.f9.f9.f9.f9.f9.f9.f9) ?_
  refine jr 4 rfl (fP qL.f6 underlying67 (show (prog.info? 202).map (fun i => (i.zero, i.size, i.bytes)) = some (some (.agg #[.int .i64 0, .slice none 0 0, .slice none 0 0]), 3, 56) by kernel_rfl) rfl rfl rfl ((qL).aT) (aC (by first | rfl | assumption) (aC (by first | rfl | exact Rd.one ((qL.f2).aT)) (aC (by first | rfl | exact Rd.one ((qL.f3).aT)) bn))) (by omega) (by omega)) ?_
  rintro XK Gq sD
  have ER := sD.f2.right
  have zn := aB.kp (ER.f9.f9.f9.f9.f9.f9.f9.f9.f9)
  refine dR zn (by kernel_rfl) ?_
  refine dN 5 rfl (by kernel_rfl) (aS 0 (l' := [_]) ER.f5 sizeOf67 rfl rfl (by first | rfl | exact Rd.one ((ER).aT)) rfl rfl) ?_
  rintro _ O7 xQ
  have DT := aB.kp (xQ.f9.f9.f9.f9.f9.f9.f9.f9.f9)
  refine dR DT (by kernel_rfl) ?_
  refine nJ (aH ?_)
  refine yx ?_
  have X := (xQ.f5.right.f6.right.f6.right.f6.right.f6.f2.f6.f4.f6.f6).jy.swap.jy.swap
  have X2 := aB.uD X.f3
  exact (aB.Qn (es := es) (k := k + 1) (by rw [List.map_append, hfs, Qm (by omega)]; rfl) X2.swap).deep
 ·rintro D14 O8 zN
  have Qr := zN.ed
  try simp only [bI, ji, nC] at Qr
  have Vx := Qr.Io
  obtain ⟨u, fs, hfs, hfl, HI⟩ := (Vx.f4).Ji
  refine aH (aj (ay (ah (eu underlying67 rfl (HI).get.2 rfl (aW rfl (aA (aj (aK ?_))))))))
  refine yQ (.inl rfl) (HI.f4) (fun Sv xE => ?_)
  refine ⟨_, SI results167 rfl, ?_⟩
  rw [List.take_of_length_le (by simp)] at hfs
  exact ⟨_, hfs, xE.right.f3.right.f3.f3.f3⟩
 ·rintro D w H; exact absurd H.swap.fact.1 id
 ·rintro id D w H; exact absurd H.swap.fact.1 fun h => h
end
end Go.Proofs.YtddekefihgejoaaGreatDoor
end
section
namespace Go.Proofs.YtddekefihgejoaaGreatDoor
open Go.RowKit
open _root_.Go.Proofs.Tryz
def Qs (G : List (List fJ)) (N : List fJ) : Int := if G.length + N.length = 0 then 6 else 0
def MO (G : List (List fJ)) (N : List fJ) : List (List fJ) := if G.length + N.length = 0 then G else (jq G N).dropLast
def MP (G : List (List fJ)) (N : List fJ) : List fJ := if G.length + N.length = 0 then N else []
def MQ (G : List (List fJ)) (N : List fJ) (op : Int) : Int := if G.length + N.length = 0 then op else 0
def UH (G : List (List fJ)) (N : List fJ) : List fJ := if G.length + N.length = 0 then [] else ((jq G N).getLastD []).reverse.map DV
theorem FB {G : List (List fJ)} {g N : List fJ} : eY (G ++ [g]) N = eY G N + g.length := by simp [eY]; omega
section
variable {w0 w : World} {F : HP} {p : Nat} {G : List (List fJ)} {N : List fJ} {op : Int} {gv nv v : Value} {gs : List (Value × List dw)} {now es : List dw} {a : Int} {d z : Value} {dl il : List Int}
theorem KX (h : ¬ G.length + N.length = 0) : jq G N ≠ [] := by
  unfold jq; split
  · rename_i hN; rintro rfl; subst hN; exact h rfl
  · simp
theorem aB.KY (H : aB w0 w (dX p G [] op • F)) (hG : G ≠ []) : ∃ gv nv hs gl vH, G = hs.map (fun g => g.2.map dw.says) ++ [vH.map dw.says] ∧ TG G [] op ∧ G.length = hs.length + 1 ∧ hs.length ≤ 16384 ∧ vH.length ≤ 16384 ∧ (∀ k, k < vH.length → EB (vH.getD k default).says) ∧
    aB w0 w (dh p (.cells #[gv, nv, .int .i64 op, .int .i64 (eY G [] : Nat), .bool true] 233 (0, 0)) • Row 67 1 gv (hs.length + 1) (hs.map (·.1) ++ [gl]) • nR hs • zQ gl vH • EO nv [] • F) := by
  obtain ⟨gv, nv, gs, now, h1, h2, h3, h4, h5, h6, H⟩ := H.qj
  obtain rfl : now = [] := List.eq_nil_of_length_eq_zero (by simpa using h5)
  rcases List.eq_nil_or_concat gs with rfl | ⟨hs, ⟨gl, vH⟩, rfl⟩
  · exact absurd h2.symm hG
  · have hG2 : G = hs.map (fun g => g.2.map dw.says) ++ [vH.map dw.says] := by rw [← h2]; simp
    have hle : vH.length ≤ 16384 := by
      have := h1.2.1
      rw [hG2, FB] at this
      simp at this
      omega
    refine ⟨gv, nv, hs, gl, vH, hG2, h1, ?_, ?_, hle, fun k hk => ?_, ?_⟩
    · rw [hG2]; simp
    · rw [hG2] at h6; simp at h6; omega
    · refine h1.2.2.2.2.1 (vH.map dw.says) (by rw [hG2]; simp) _ ?_
      rw [List.getD_eq_getElem?_getD, List.getElem?_eq_getElem hk]
      exact List.mem_map_of_mem (List.getElem_mem hk)
    · rw [List.concat_eq_append, List.length_append, List.map_append] at H
      have H1 := (H.f3.I9 (k := hs.length) (by simp)).swap
      rw [show (hs ++ [(gl, vH)]).getD hs.length default = (gl, vH) from by simp [List.getD_eq_getElem?_getD]] at H1
      have H2 := H1.Qc hs.length
      rw [List.take_left' rfl] at H2
      exact H2.of_eq (by unfold EO; ac_rfl)
theorem xU (H : aB w0 w (dX p G N op • F)) : gG prog 131 #[.pointer (some ⟨p, 0, none⟩)] w fun v w' => ∃ u, ∃ fs : List dw, v = .tuple #[u, .int .i64 (Qs G N)] ∧ fs.map dw.says = UH G N ∧
  aB w0 w' (Row 202 3 u fs.length (fs.flatMap dw.enc) • jo fs • dX p (MO G N) (MP G N) (MQ G N op) • F) := by
 unfold Qs UH MO MP MQ
 refine iF func131 ntmps131 ?_
 dsimp only [bg, Nat.reduceAdd]
 refine ay (ah (aW rfl (aW rfl (aA (aj (ay (ay (ah (aI rfl (dH rfl func161 (iO H) ?_))))))))))
 rintro _ _ ⟨rfl, rfl⟩
 refine aA (aj (nY (aO (aj (ay (ay ?_))))))
 obtain ⟨vZ, tH, jE, jh, iT, oI, mJ, Ag, Ah, EP, kL⟩ := (H).qj
 have Ai := kL.drew
 have fE := aB.kp (Ai.f5.f5.f5.f5.f5)
 refine wo [4, 10] fE rfl (gV 0 rfl fE rfl (iZ 1 rfl fE rfl (dV 2 rfl fE 0 underlying233 rfl sizeOf231 rfl (dV 3 rfl fE 0 underlying231 rfl sizeOf180 rfl (iy 4 rfl fE (fun W hW => iQ underlying180 rfl ((Kp.h hW)).get.2 rfl) (iR 5 rfl fE (fun _ => eX ((Ai.f2).aT) underlying180 rfl) (gV 6 rfl fE rfl (iZ 7 rfl fE rfl (dV 8 rfl fE 0 underlying233 rfl sizeOf231 rfl (dV 9 rfl fE 1 underlying231 rfl sizeOf67 rfl (iy 10 rfl fE (fun W hW => iQ underlying67 rfl ((Kp.h hW)).get.2 rfl) (iR 11 rfl fE (fun _ => eX ((Ai.f4).aT) underlying67 rfl) (iR 12 rfl fE (fun _ => dG rfl rfl (by omega)) (iR 13 rfl fE (fun _ => gU rfl rfl) (nJ (aj (aP rfl (fun h1 => ?_) (fun h1 => ?_))))))))))))))))))
 ·(try simp only [aG] at h1)
  have YW : G.length + N.length = 0 := by omega
  have KQ := Ai.f5.f5.f5.f5.f5
  have KR := aB.jw iT oI mJ rfl KQ
  refine ay (ah (aW rfl (aW rfl (aA (aj (aK (aN (gW (.inl rfl) results131 rfl rfl ?_))))))))
  simp only [if_pos YW]
  exact ⟨_, [], rfl, rfl, ((KR).oU none).WB⟩
 ·(try simp only [aG] at h1)
  have YW : ¬ G.length + N.length = 0 := by omega
  have Qu := Ai.f5.f5.f5.f5.f5
  have Oo := aB.jw iT oI mJ rfl Qu
  refine aO (aj (ay (ah (aI rfl (dH rfl func166 (wK Oo) ?_)))))
  rintro _ w9 H9
  refine aA (aj (ay ?_))
  obtain ⟨gv, nv, hs, gl, vH, hG, hok, hl1, hl2, hl3, hEB, HU⟩ := (H9).KY (KX YW)
  have htot := hok.2.1
  refine ah (aI rfl (bQ rfl (bC 0 underlying233 rfl sizeOf231 rfl (bC 0 underlying231 rfl sizeOf180 rfl (eu underlying180 rfl (HU).get.2 rfl (aU (eX ((HU.f2).aT) underlying180 rfl) (aU (je rfl rfl (by omega)) (aW rfl (aA (aj (ay (ah (aI rfl (bQ rfl (bC 0 underlying233 rfl sizeOf231 rfl (bC 0 underlying231 rfl sizeOf180 rfl (eu underlying180 rfl (HU).get.2 rfl (aI rfl ?_))))))))))))))))))
  obtain ⟨bgv, ogv, cgv, egv⟩ := Rd.kV ((HU.f2).aT) (by omega)
  cases egv
  refine aU (bY underlying180 sizeOf67 rfl rfl (by omega)) ?_
  refine aU (dZ (bU underlying67 rfl) rfl (by first | exact Rd.nZ ((HU.f2).aT) (by omega) | exact Rd.AV ((HU.f2).aT) (by omega) | exact Rd.zX ((HU.f2).aT) (by omega))) ?_
  rw [show (hs.map (·.1) ++ [gl]).getD ((((hs.length + 1 : Nat)) : Int) - 1).toNat undef = gl from by rw [show ((((hs.length + 1 : Nat)) : Int) - 1).toNat = hs.length from by omega]; simp [List.getD_eq_getElem?_getD]]
  refine aW rfl (aA (aj (ay (ah (aI rfl (aI rfl (bQ rfl (bC 0 underlying233 rfl sizeOf231 rfl (bC 0 underlying231 rfl sizeOf180 rfl (eu underlying180 rfl (HU).get.2 rfl (aI rfl (aU (uj ((HU.f2).aT) underlying180 sizeOf67 rfl rfl rfl (by omega)) (bQ rfl (bC 0 underlying233 rfl sizeOf231 rfl (bC 0 underlying231 rfl sizeOf180 rfl (aJ (aS 0 (l' := [_, _, _, _, _]) HU sizeOf180 rfl rfl (by first | rfl | exact Rd.one (Rd.Xx ((HU.f2).aT) (by omega))) rfl rfl) ?_))))))))))))))))
  rintro _ w10 qL
  refine aA (aj (ay (ah (aI rfl (bQ rfl (bC 0 underlying233 rfl sizeOf231 rfl (bC 3 underlying231 rfl sizeOf3 rfl (eu underlying3 rfl (qL).get.2 rfl (aI rfl (aU (eX ((qL.f4).yw) underlying67 rfl) (aU (je rfl rfl (by omega)) (bQ rfl (bC 0 underlying233 rfl sizeOf231 rfl (bC 3 underlying231 rfl sizeOf3 rfl (aJ (aS 3 (l' := [_, _, _, _, _]) qL sizeOf3 rfl rfl (by first | rfl | assumption) rfl rfl) ?_)))))))))))))))
  rintro _ Gq sD
  refine aA (aj (ay (ah (aI rfl (dH rfl func167 (zu sD.f4 hEB hl3) ?_)))))
  rintro Ws w12 ⟨Qv, UJ, vV⟩
  refine aW rfl (aW rfl (aA (aj (aK (gW (.inl rfl) results131 rfl rfl ?_)))))
  simp only [if_neg YW]
  have hdl : (jq G N).dropLast = hs.map (fun g => g.2.map dw.says) := by rw [hG]; simp
  have hlast : (jq G N).getLastD [] = vH.map dw.says := by rw [hG]; simp
  have hX := (vV.f3.right.f6.f6.f5.f5.f5.f6).Pv (h := hs.length) (by omega)
  rw [hdl, hlast]
  rw [Nat.mul_one, List.take_left' (by simp), show (((hs.length + 1 : Nat) : Int) - 1).toNat = hs.length from by omega, show Int.toNat 0 = 0 from rfl] at hX
  have hT : eY (jq G N) [] = eY (hs.map (fun g => g.2.map dw.says)) [] + vH.length := by rw [hG, FB, List.length_map]
  have hok2 : TG (hs.map (fun g => g.2.map dw.says)) [] 0 := ⟨fun g hg => hok.1 g (by rw [hG]; exact List.mem_append_left _ hg), by omega, by decide, by decide, fun g hg => hok.2.2.2.2.1 g (by rw [hG]; exact List.mem_append_left _ hg), by simp⟩
  refine ⟨_, _, rfl, (by assumption), ?_⟩
  have hU := aB.pI (gv := nK 1 0 hs.length (.slice (some ⟨bgv, ogv, none⟩) (hs.length + 1) cgv)) (nv := nv) (gs := hs) (now := []) (ed := (eY (jq G N) [] : Nat) - (vH.length : Int)) (F := Row 202 3 Ws Qv.length (Qv.flatMap dw.enc) • jo Qv • F) hok2 rfl rfl (by omega) (hX.of_eq (by unfold zi; ac_rfl))
  exact hU.of_eq (by ac_rfl)
end
end Go.Proofs.YtddekefihgejoaaGreatDoor
end
