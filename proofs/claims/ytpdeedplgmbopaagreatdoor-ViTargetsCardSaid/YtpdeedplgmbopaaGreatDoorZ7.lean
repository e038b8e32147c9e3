import Derived.Test.YtpdeedplgmbopaaGreatDoorZ4
import Derived.Test.YtpdeedplgmbopaaGreatDoorZ6
set_option linter.unusedSimpArgs false
set_option linter.unusedVariables false
/- Texts of mine, joined, their names in short: UList Range UList2 UList3 UList4 UList5 UList6. -/
section
namespace Go.Proofs.YtpdeedplgmbopaaGreatDoor
open Go.RowKit
open _root_.Go.Proofs.Tryz
abbrev jq := Int × List Int × List Int
def jd (G : List (List jq)) (N : List jq) : Nat := (G.map List.length).sum + N.length
def EB (e : jq) : Prop := e.2.1.length ≤ 35184372087808 ∧ e.2.2.length ≤ 35184372087808
theorem YL {N : List jq} {x : jq} (h : ∀ e ∈ N, EB e) (hx : EB x) : ∀ e ∈ N ++ [x], EB e := fun e he => by
  rcases List.mem_append.1 he with he | he
  · exact h e he
  · rw [List.mem_singleton.1 he]; exact hx
theorem NW {G : List (List jq)} {N : List jq} (h : ∀ g ∈ G, ∀ e ∈ g, EB e) (hx : ∀ e ∈ N, EB e) : ∀ g ∈ G ++ [N], ∀ e ∈ g, EB e := fun g hg => by
  rcases List.mem_append.1 hg with hg | hg
  · exact h g hg
  · rw [List.mem_singleton.1 hg]; exact hx
theorem RQ {G : List (List jq)} {N : List jq} (h : ∀ g ∈ G, g ≠ []) (hx : N ≠ []) : ∀ g ∈ G ++ [N], g ≠ [] := fun g hg => by
  rcases List.mem_append.1 hg with hg | hg
  · exact h g hg
  · rw [List.mem_singleton.1 hg]; exact hx
def YM (G : List (List jq)) (N : List jq) (op : Int) : Prop := (∀ g ∈ G, g ≠ []) ∧ jd G N ≤ 16384 ∧ 0 ≤ op ∧ op ≤ 4611686018427387904 ∧ (∀ g ∈ G, ∀ e ∈ g, EB e) ∧ ∀ e ∈ N, EB e
theorem Qj {G : List (List jq)} (h : ∀ g ∈ G, g ≠ []) : G.length ≤ (G.map List.length).sum := by
  induction G with
  | nil => simp
  | cons g G ih =>
    have h1 := ih fun x hx => h x (by simp [hx])
    have h2 : 0 < g.length := List.length_pos_iff.2 (h g (by simp))
    simp; omega
theorem YM.len {G : List (List jq)} {N : List jq} {op : Int} (h : YM G N op) : G.length + N.length ≤ 16384 := by
  have := Qj h.1
  have := h.2.1
  unfold jd at this
  omega
def jl (p : Nat) (G : List (List jq)) (N : List jq) (op : Int) : HP := uf fun (x : Value × Value × List (Value × List eG) × List eG) =>
  fact (YM G N op ∧ x.2.2.1.map (fun g => g.2.map eG.says) = G ∧ x.2.2.2.map eG.says = N) • dS p (.cells #[x.1, x.2.1, .int .i64 op, .int .i64 (jd G N : Nat), .bool true] 235 (0, 0)) • CZ x.1 x.2.2.1 • Kw x.2.1 x.2.2.2
section
variable {w0 w : World} {F : HP} {p : Nat} {G : List (List jq)} {N : List jq} {op : Int} {gv nv : Value} {gs : List (Value × List eG)} {now : List eG} {a : Int} {d z : Value} {dl il : List Int}
theorem V.y8 (H : V w0 w (jl p G N op • F)) : ∃ gv nv gs now, YM G N op ∧ gs.map (fun g => g.2.map eG.says) = G ∧ now.map eG.says = N ∧ gs.length = G.length ∧ now.length = N.length ∧ G.length + N.length ≤ 16384 ∧
    V w0 w (dS p (.cells #[gv, nv, .int .i64 op, .int .i64 (jd G N : Nat), .bool true] 235 (0, 0)) • Row 80 1 gv gs.length (gs.map (·.1)) • oH gs • Row 189 3 nv now.length (now.flatMap eG.enc) • kW now • F) := by
  obtain ⟨⟨gv, nv, gs, now⟩, H⟩ := H.lZ
  obtain ⟨⟨h1, h2, h3⟩, H⟩ := H.flat.fact
  refine ⟨gv, nv, gs, now, h1, h2, h3, ?_, ?_, h1.len, ?_⟩
  · rw [← h2]; simp
  · rw [← h3]; simp
  · have := H.flat
    unfold CZ Kw at this
    exact this.of_eq (by ac_rfl)
theorem V.xu (h1 : YM G N op) (h2 : gs.map (fun g => g.2.map eG.says) = G) (h3 : now.map eG.says = N) {ed : Int} (he : ed = (jd G N : Nat))
    (H : V w0 w (dS p (.cells #[gv, nv, .int .i64 op, .int .i64 ed, .bool true] 235 (0, 0)) • CZ gv gs • Kw nv now • F)) : V w0 w (jl p G N op • F) := by
  subst he
  exact V.iV (gv, nv, gs, now) (V.deep (V.kR ⟨h1, h2, h3⟩ (H.of_eq (by ac_rfl))))
theorem V.oI (h1 : YM G N op) (h2 : gs.map (fun g => g.2.map eG.says) = G) (h3 : now.map eG.says = N) {ed : Int} (he : ed = (jd G N : Nat))
    (H : V w0 w (dS p (.cells #[gv, nv, .int .i64 op, .int .i64 ed, .bool true] 235 (0, 0)) • Row 80 1 gv gs.length (gs.map (·.1)) • oH gs • Row 189 3 nv now.length (now.flatMap eG.enc) • kW now • F)) : V w0 w (jl p G N op • F) :=
  V.xu h1 h2 h3 he (H.of_eq (by unfold CZ Kw; ac_rfl))
theorem nM (H : V w0 w (jl p G N op • F)) : ig prog 158 #[.pointer (some ⟨p, 0, none⟩)] w fun v w' => v = .bool false ∧ w = w' := by
 refine iK func158 ntmps158 ?_
 refine jy O (aK ?_)
 obtain ⟨BX, zF, oJ, nH, lN, wK, uz, Ht, Hu, NY, rP⟩ := (H).y8
 refine aA (bG O (Z (jm underlying184 O O) (iZ O (fun h1 => ?_) (fun h1 => ?_))))
 ·(try simp only [aC] at h1)
  exfalso; first | contradiction | omega
 ·(try simp only [aC] at h1)
  refine bg (bG O (bg (dQ O (bg (bK 4 bJ O aT O (bg (gJ bW O (rP).get.2 O (bg (Z (mD O) (gI O O (dU O (dF results158 O ?_))))))))))))
  exact ⟨O, O⟩
theorem LJ (H : V w0 w F) : ig prog 174 #[] w fun v w' => ∃ p, v = .pointer (some ⟨p, 0, none⟩) ∧ V w0 w' (jl p [] [] 0 • F) := by
  refine TK func174 ntmps174 ?_
  refine jy O (gW (Z (qO (pl := #[(0, 4), (4, 1)]) (#[_, _, _, _, _]) bJ zeroValue235 (fun w => by kernel_rfl) O (O)) (jL (jf (l := [_, _, _, _, _]) H O O) ?_)))
  rintro _ w1 ⟨b1, rfl, H1⟩
  refine dU O (dF results174 O ?_)
  refine ⟨_, O, V.xu (gv := .slice none 0 0) (nv := .slice none 0 0) (gs := []) (now := []) ⟨by simp, by decide, by decide, by decide, by simp, by simp⟩ O O O ?_⟩
  exact (((H1).tu none).Hr none).of_eq (by ac_rfl)
theorem LK (H : V w0 w (jl p G N op • F)) : ig prog 120 #[.pointer (some ⟨p, 0, none⟩)] w fun v w' => v = .int .i64 ((G.length : Int) + min 1 N.length) ∧ V w0 w' (jl p G N op • F) := by
 refine iK func120 ntmps120 ?_
 refine jy O (aK (bM O (dX O func158 (nM H) ?_)))
 rintro _ _ ⟨rfl, rfl⟩
 refine iy (oD (fG (aK ?_)))
 obtain ⟨BX, zF, oJ, nH, lN, wK, uz, Ht, Hu, NY, rP⟩ := (H).y8
 have BZ := rP.drew
 have iL := V.kp (BZ.f5.f5.f5.f5.f5)
 refine yY [4, 10] iL O (jW 0 O iL O (kV 1 O iL O (iJ 2 O iL 0 bJ O dG O (iJ 3 O iL 0 bU O fJ O (kK 4 O iL (fun W hW => kQ bH O ((Kp.h hW)).get.2 O) (jQ 5 O iL (fun _ => jU ((BZ.f2).aY) bH O) (jW 6 O iL O (kV 7 O iL O (iJ 8 O iL 0 bJ O dG O (iJ 9 O iL 1 bU O bV O (kK 10 O iL (fun W hW => kQ aZ O ((Kp.h hW)).get.2 O) (jQ 11 O iL (fun _ => jU ((BZ.f4).aY) aZ O) (jQ 12 O iL (fun _ => xY O O) (jQ 13 O iL (fun _ => dP O O (by omega)) (jQ 14 O iL (fun _ => dY O) (sK (aW (mg (dF results120 O ?_)))))))))))))))))))
 have Qk := BZ.f5.f5.f5.f5.f5
 have PN := V.oI lN wK uz rfl Qk
 exact ⟨by rw [Ht, Hu]; congr 1; omega, PN⟩
theorem xw (H : V w0 w (jl p G N op • F)) (hb : op < 4611686018427387904) : ig prog 137 #[.pointer (some ⟨p, 0, none⟩)] w fun v w' => v = .int .i64 0 ∧ V w0 w' (jl p G N (op + 1) • F) := by
 have hop : 0 ≤ op := by obtain ⟨gv, nv, gs, now, k1, _⟩ := H.y8; exact k1.2.2.1
 refine iK func137 ntmps137 ?_
 refine jy O (aK (bM O (dX O func158 (nM H) ?_)))
 rintro _ _ ⟨rfl, rfl⟩
 refine iy (oD (fG (aK ?_)))
 obtain ⟨BX, zF, oJ, nH, lN, wK, uz, Ht, Hu, NY, rP⟩ := (H).y8
 refine aA (nZ O O (bK 0 bJ O dG O (bK 2 bU O aF O (gJ aP O (rP).get.2 O (Z (dP O O (by omega)) (dQ O (bK 0 bJ O dG O (bK 2 bU O aF O (aO (YA 2 rP aF) ?_)))))))))
 rintro _ w3 H3
 refine iy (jB O (dF results137 O ?_))
 exact ⟨O, V.oI ⟨lN.1, lN.2.1, by omega, by omega, lN.2.2.2.2⟩ wK uz O H3.f5.f5.f5.f5.f5⟩
def vZ (G : List (List jq)) (N : List jq) (a : Int) (dl il : List Int) : Int := if dl.length + il.length = 0 ∨ a < 0 then 1 else if 16384 ≤ jd G N then 3 else 0
def Ql (G : List (List jq)) (N : List jq) (op a : Int) (dl il : List Int) : List (List jq) := if vZ G N a dl il = 0 then (if 0 < op then G else G ++ [[(a, dl, il)]]) else G
def Qm (G : List (List jq)) (N : List jq) (op a : Int) (dl il : List Int) : List jq := if vZ G N a dl il = 0 then (if 0 < op then N ++ [(a, dl, il)] else N) else N
theorem RS {x : jq} : jd G (N ++ [x]) = jd G N + 1 := by simp [jd]; omega
theorem NZ {x : jq} : jd (G ++ [[x]]) N = jd G N + 1 := by simp [jd]; omega
theorem Hw (h : vZ G N a dl il ≠ 0) : Ql G N op a dl il = G := by unfold Ql; rw [if_neg h]
theorem Hy (h : vZ G N a dl il ≠ 0) : Qm G N op a dl il = N := by unfold Qm; rw [if_neg h]
theorem Gp (h : vZ G N a dl il = 0) (ho : 0 < op) : Ql G N op a dl il = G := by unfold Ql; rw [if_pos h, if_pos ho]
theorem Gq (h : vZ G N a dl il = 0) (ho : 0 < op) : Qm G N op a dl il = N ++ [(a, dl, il)] := by unfold Qm; rw [if_pos h, if_pos ho]
theorem VG (h : vZ G N a dl il = 0) (ho : ¬ 0 < op) : Ql G N op a dl il = G ++ [[(a, dl, il)]] := by unfold Ql; rw [if_pos h, if_neg ho]
theorem VH (h : vZ G N a dl il = 0) (ho : ¬ 0 < op) : Qm G N op a dl il = N := by unfold Qm; rw [if_pos h, if_neg ho]
theorem zG (H : V w0 w (jl p G N op • F)) (hd : jE w0 F .i32 d dl) (hi : jE w0 F .i32 z il) (b2 : dl.length ≤ 35184372087808) (b3 : il.length ≤ 35184372087808) :
  ig prog 138 #[.pointer (some ⟨p, 0, none⟩), edV a d z] w fun v w' => v = .int .i64 (vZ G N a dl il) ∧ V w0 w' (jl p (Ql G N op a dl il) (Qm G N op a dl il) op • F) := by
 refine nC func138 ntmps138 ?_
 refine gW (jL (jf (l := [_, _, _]) H O O) ?_)
 rintro _ w1 ⟨b1, rfl, H1⟩
 refine tX O (bM O (dX O func158 (nM H1.f2) ?_))
 rintro _ _ ⟨rfl, rfl⟩
 refine iy (oD (fG (aK (gW (bK 1 dK O dV O (gJ aj O (H1).get.2 O (Z (fO (hd _ (H1.right.right)) aj O) (bK 2 dK O dV O (gJ aj O (H1).get.2 O (Z (fO (hi _ (H1.right.right)) aj O) (Z (dP O O (by omega)) (Z (cZ O O) (iZ O (fun h1 => ?_) (fun h1 => ?_))))))))))))))
 ·(try simp only [aC] at h1)
  refine bn (bn (bn (iM O O (iy (DC (jB O (ay (dF results138 O ?_))))))))
  have e : vZ G N a dl il = 1 := by unfold vZ; rw [if_pos (by omega)]
  rw [Hw (by rw [e]; decide), Hy (by rw [e]; decide), e]
  exact ⟨O, H1.right⟩
 ·(try simp only [aC] at h1)
  refine bg (bK 0 dK O aF O (bg (gJ aP O (H1).get.2 O (bg (Z (fF O O) (gI O O (gQ O (fun h2 => ?_) (fun h2 => ?_))))))))
  ·(try simp only [aC] at h2)
   refine jB O (ay (dF results138 O ?_))
   have e : vZ G N a dl il = 1 := by unfold vZ; rw [if_pos (by omega)]
   rw [Hw (by rw [e]; decide), Hy (by rw [e]; decide), e]
   exact ⟨O, H1.right⟩
  ·(try simp only [aC] at h2)
   refine fG (aK (aK ?_))
   obtain ⟨BX, zF, oJ, nH, lN, wK, uz, Ht, Hu, NY, rP⟩ := (H1.f2).y8
   refine aA (nZ O O (bK 0 bJ O dG O (bK 3 bU O aF O (gJ aP O (rP).get.2 O (Z (jw O O) (gQ O (fun h3 => ?_) (fun h3 => ?_)))))))
   ·(try simp only [aC] at h3)
    refine jB O (ay (dF results138 O ?_))
    have e : vZ G N a dl il = 3 := by unfold vZ; rw [if_neg (by omega), if_pos (by omega)]
    have Ho5 := rP.f5.f5.f5.f5.f5
    have Hc6 := V.oI lN wK uz rfl Ho5
    rw [Hw (by rw [e]; decide), Hy (by rw [e]; decide), e]
    exact ⟨O, Hc6.f2.right⟩
   ·(try simp only [aC] at h3)
    refine fG (bM O (dQ O (bK 0 bJ O dG O (bK 3 bU O aF O (gJ aP O (rP).get.2 O (Z (dP O O (by omega)) (dQ O (bK 0 bJ O dG O (bK 3 bU O aF O (aO (YA 3 rP aF) ?_))))))))))
    rintro _ w7 H7
    refine qW (bM O (dQ O (bK 0 bJ O dG O (bK 2 bU O aF O (gJ aP O (H7).get.2 O (Z (iw O O) (gQ O (fun h4 => ?_) (fun h4 => ?_))))))))
    ·(try simp only [aC] at h4)
     have acj := H7.drew
     have FC := V.kp (acj.f6.f6.f6.f6.f6.f6)
     refine yY [5, 6] FC O (jW 0 O FC O (jW 1 O FC O (kV 2 O FC O (iJ 3 O FC 0 bJ O dG O (iJ 4 O FC 1 bU O bV O (kK 5 O FC (fun W hW => kQ aZ O ((Kp.h hW)).get.2 O) (kK 6 O FC (fun W hW => fP dK O fA O O ((Kp.h hW).f6).get.2) (oV 7 O (zx O func179 (wJ acj (fun W HW => hd _ (HW.right.right.right.right.right.right)) (fun W HW => hi _ (HW.right.right.right.right.right.right)) (by omega) (by omega))) ?_))))))))
     rintro _ w8 ⟨d8, s8, rfl, H8⟩
     have Qn := V.kp (H8.f8.f8.f8.f8.f8.f8.f8.f8)
     refine eU Qn (fun W hW => (Kp.h hW).right.right.f6.f6.f6.f6.f6.f6) ?_
     refine oV 8 O (wP H8 aZ fA iO O O O (by decide) (by decide)) ?_
     rintro l9 w9 H9
     have Qo := V.kp (H9.f9.f9.f9.f9.f9.f9.f9.f9.f9)
     refine eU Qo (fun W hW => (Kp.h hW).right.f8.f8.f8.f8.f8.f8.f8.f8) ?_
     refine oV 9 O (gZ H9.f7 aZ AO O O O ((H9).aY) (aH (bf (by first | rfl | exact Rd.one ((H9.f2).aY)) (bf (by first | rfl | exact Rd.one ((H9.f3).aY)) bP))) (by omega) (by omega)) ?_
     rintro l10 w10 rD
     have Qp := rD.f2.right
     have Ac := V.kp (Qp.f8.f8.f8.f8.f8.f8.f8.f8)
     refine iD Ac (by kernel_rfl) ?_
     refine kV 10 O Ac O (iJ 11 O Ac 0 bJ O dG O (iJ 12 O Ac 1 bU O bV O ?_))
     refine gX 13 O (by kernel_rfl) (fQ 1 (l' := [_, _, _, _, _]) Qp.f4 bV O O (by first | rfl | exact Rd.one ((Qp).aY)) O O) ?_
     rintro _ w12 vX
     have Hz := V.kp (vX.f8.f8.f8.f8.f8.f8.f8.f8)
     refine iD Hz (by kernel_rfl) ?_
     have hadd : 0 < op := by omega
     refine sK (aW (jB O (dF results138 O ?_)))
     have e : vZ G N a dl il = 0 := by unfold vZ; rw [if_neg (by omega), if_neg (by omega)]
     rw [Gp e hadd, Gq e hadd, e]
     have X := (vX.f8.right.f6.f6.f3.f7.f5.f7.f7).pY.swap.pY.swap
     have X2 := V.DZ X.f3
     refine ⟨O, V.xu (gv := BX) (nv := l10) (gs := oJ) (now := nH ++ [⟨a, d8, dl, s8, il⟩]) (ed := (jd G N : Nat) + 1) ⟨lN.1, by rw [RS]; omega, lN.2.2.1, lN.2.2.2.1, lN.2.2.2.2.1, YL lN.2.2.2.2.2 ⟨b2, b3⟩⟩ wK (by rw [List.map_append, uz]; rfl) (by rw [RS]; rfl) (X2.of_eq (by unfold CZ; ac_rfl))⟩
    ·(try simp only [aC] at h4)
     have VI := H7.drew
     have yh := V.kp (VI.f6.f6.f6.f6.f6.f6)
     refine yY [5, 6] yh O (jW 0 O yh O (jW 1 O yh O (kV 2 O yh O (iJ 3 O yh 0 bJ O dG O (iJ 4 O yh 0 bU O fJ O (kK 5 O yh (fun W hW => kQ bH O ((Kp.h hW)).get.2 O) (kK 6 O yh (fun W hW => fP dK O fA O O ((Kp.h hW).f6).get.2) (oV 7 O (zx O func179 (wJ VI (fun W HW => hd _ (HW.right.right.right.right.right.right)) (fun W HW => hi _ (HW.right.right.right.right.right.right)) (by omega) (by omega))) ?_))))))))
     rintro _ PO ⟨d13, s13, rfl, xM⟩
     have wE := V.kp (xM.f8.f8.f8.f8.f8.f8.f8.f8)
     refine eU wE (fun W hW => (Kp.h hW).right.right.f6.f6.f6.f6.f6.f6) ?_
     refine oV 8 O (wP xM aZ fA iO O O O (by decide) (by decide)) ?_
     rintro l14 TN BJ
     have D5 := V.kp (BJ.f9.f9.f9.f9.f9.f9.f9.f9.f9)
     refine eU D5 (fun W hW => (Kp.h hW).right.f8.f8.f8.f8.f8.f8.f8.f8) ?_
     refine oV 9 O (kH (vs := [_]) BJ bH bV lS O O O (by decide) (bf (by first | rfl | exact Rd.one ((BJ).aY)) bP)) ?_
     rintro l15 TV zH
     have wF := V.kp (zH.f10.f10.f10.f10.f10.f10.f10.f10.f10.f10)
     refine eU wF (fun W hW => (Kp.h hW).right.f9.f9.f9.f9.f9.f9.f9.f9.f9) ?_
     refine oV 10 O (gZ zH.f6 bH FD O O O ((zH).aY) (bf (by first | rfl | exact Rd.one ((zH.f2).aY)) bP) (by omega) (by omega)) ?_
     rintro l16 w16 zB
     have Qq := zB.f2.right
     have FH := V.kp (Qq.f9.f9.f9.f9.f9.f9.f9.f9.f9)
     refine iD FH (by kernel_rfl) ?_
     refine kV 11 O FH O (iJ 12 O FH 0 bJ O dG O (iJ 13 O FH 0 bU O fJ O ?_))
     refine gX 14 O (by kernel_rfl) (fQ 0 (l' := [_, _, _, _, _]) Qq.f5 fJ O O (by first | rfl | exact Rd.one ((Qq).aY)) O O) ?_
     rintro _ YE DT
     have VJ := V.kp (DT.f9.f9.f9.f9.f9.f9.f9.f9.f9)
     refine iD VJ (by kernel_rfl) ?_
     have hadd : ¬ 0 < op := by omega
     refine sK (aW (jB O (dF results138 O ?_)))
     have e : vZ G N a dl il = 0 := by unfold vZ; rw [if_neg (by omega), if_neg (by omega)]
     rw [VG e hadd, VH e hadd, e]
     have X := (DT.f9.right.f8.f8.f3.f8.f5.f6.f8.f8).pY.swap.pY.swap
     have X2 := V.DZ (es := []) X.NT.f3.f3.f4
     have X4 := V.rY X2.qF.swap
     refine ⟨O, V.xu (gv := l16) (nv := zF) (gs := oJ ++ [(l14, [⟨a, d13, dl, s13, il⟩])]) (now := nH) (ed := (jd G N : Nat) + 1) ⟨RQ lN.1 (List.cons_ne_nil _ _), by rw [NZ]; omega, lN.2.2.1, lN.2.2.2.1, NW lN.2.2.2.2.1 (by intro e he; rw [List.mem_singleton.1 he]; exact ⟨b2, b3⟩), lN.2.2.2.2.2⟩ (by rw [List.map_append, wK]; rfl) uz (by rw [NZ]; rfl) (X4.of_eq (by unfold Kw; ac_rfl))⟩
end
end Go.Proofs.YtpdeedplgmbopaaGreatDoor
end
section
namespace Go.Proofs.YtpdeedplgmbopaaGreatDoor
open Go.RowKit
def LM (P : Program) (l : Nat) (vs : List Value) (w : World) (T : Value → World → Prop) : Prop :=
  ∃ f tmps c d, (Instr.yield l vs.toArray).run P w = .ok (.round l f tmps c d) w ∧ RoundIn Fence.wide 0 P l f tmps c d w fun e w' => ∃ v, e = .returned v ∧ T v w'
theorem LM.mono {P : Program} {l : Nat} {vs : List Value} {w : World} {T T' : Value → World → Prop} (h : LM P l vs w T) (k : ∀ v w', T v w' → T' v w') : LM P l vs w T' :=
  let ⟨f, tmps, c, d, h1, h2⟩ := h; ⟨f, tmps, c, d, h1, RoundIn.mono h2 fun _ _ ⟨v, e, t⟩ => ⟨v, e, k _ _ t⟩⟩
theorem LM.bool {P : Program} {l : Nat} {vs : List Value} {w : World} {A B : World → Prop} (h : LM P l vs w fun v W' => (v = .bool true ∧ A W') ∨ (v = .bool false ∧ B W')) : LM P l vs w fun v W' => ∃ t, v = .bool t ∧ (t = true → A W') ∧ (t = false → B W') :=
  h.mono fun v W' hv => by
    rcases hv with ⟨rfl, h⟩ | ⟨rfl, h⟩
    · exact ⟨true, rfl, fun _ => h, fun e => by cases e⟩
    · exact ⟨false, rfl, (fun e => by cases e), fun _ => h⟩
theorem LP {P : Program} {L : List (Nat × Value)} {w : World} {ty : TypeId} {x : Operand} {args : List Operand} {ts : Array TypeId} {l : Nat} {vs : List Value} {T : Value → World → Prop} (hx : ev L x = some (.func (.yield l) #[] #[])) (ha : EC L args = some vs) (h : LM P l vs w T) :
    uZ P L (.call ⟨.value x, args.toArray, ts⟩) ty w T := by
  obtain ⟨f, tmps, c, d, hy, hr⟩ := h
  refine Yq (fun ρ hρ dd pos nV g => ?_) hr
  have hg := hρ _ _ hx
  simp [execOp, resolve, invoke, evs hρ _ _ ha, hg, Deferred.ofValue, hy]
def Iter (P : Program) (w0 : World) (fv : Value) (R : HP) (n : Nat) (E : Nat → List Value → HP → Prop) : Prop :=
  ∀ (l : Nat) (J : Nat → HP) (X : HP) (w : World),
    (∀ k, k < n → ∀ vs A, E k vs A → ∀ G W, V w0 W (A • J k • G) → LM P l vs W fun v W' => (v = .bool true ∧ V w0 W' (J (k + 1) • G)) ∨ (v = .bool false ∧ V w0 W' (X • G))) →
    V w0 w (J 0 • R) → sV P fv [.func (.yield l) #[] #[]] w fun _ W' => V w0 W' (J n • R) ∨ V w0 W' (X • R)
def N7 (w0 : World) (I : HP) (Xr : HP) (Xe : Nat → HP) (G : HP) : Exit → Act → World → Prop
  | .normal, _, W => V w0 W (I • G)
  | .ret, _, W => V w0 W (Xr • G)
  | .exit id, _, W => V w0 W (Xe id • G)
  | _, _, _ => False
def RU (P : Program) (N : Sh) (w0 : World) (body : Code) (I : HP) (Xr : HP) (Xe : Nat → HP) (G : HP) (a : Act) (W : World) : Prop :=
  ∃ (L : List (Nat × Value)) (B : HP), Fits N L a ∧ V w0 W (B • G) ∧ ∀ G' W', V w0 W' (B • G') → WC P N body (N7 w0 I Xr Xe G') L W'
def VK : Exit → Act → World → Prop := fun _ _ _ => False
theorem Qr {P : Program} {N : Sh} {w0 w : World} {body : Code} {I Xr : HP} {Xe : Nat → HP} {G B : HP} {L : List (Nat × Value)} (H : V w0 w (B • G)) (h : ∀ G' W', V w0 W' (B • G') → WC P N body (N7 w0 I Xr Xe G') L W') :
    WQ N (Exit.then (RU P N w0 body I Xr Xe G) VK) .normal L w := fun _ a ha => ⟨L, B, ha, H, h⟩
theorem HY {N : Sh} {w0 w : World} {I Xr : HP} {Xe : Nat → HP} {G : HP} {L : List (Nat × Value)} (H : V w0 w (I • G)) : WQ N (N7 w0 I Xr Xe G) .normal L w := fun _ _ _ => H
theorem VL {N : Sh} {w0 w : World} {I Xr : HP} {Xe : Nat → HP} {G : HP} {id : Nat} {L : List (Nat × Value)} (H : V w0 w (Xe id • G)) : WQ N (N7 w0 I Xr Xe G) (.exit id) L w := fun _ _ _ => H
theorem VN {w0 : World} {I Xr : HP} {Xe : Nat → HP} {G : HP} : NP (N7 w0 I Xr Xe G) := fun _ _ _ h => h
def Qs : List Nat → List Value → List (Nat × Value) → List (Nat × Value)
  | [], _, L => L
  | _ :: _, [], L => L
  | p :: ps, v :: vs, L => Qs ps vs ((p, v) :: L)
theorem N8 {n l : Nat} : ∀ (ps : List Nat) (vs : List Value) (L : List (Nat × Value)) (tmps : Array Value), (∀ p ∈ ps, p < n) → Fits ⟨n, [], some l⟩ L { tmps := tmps, defers := [] } →
    Fits ⟨n, [], some l⟩ (Qs ps vs L) { tmps := (ps.zip vs).foldl (fun t (p : Nat × Value) => t.setIfInBounds p.1 p.2) tmps, defers := [] }
  | [], _, _, _, _, h => h
  | _ :: _, [], _, _, _, h => h
  | p :: ps, v :: vs, L, tmps, hp, h => N8 ps vs _ _ (fun q hq => hp q (by simp [hq])) (h.put (hp p (by simp)) v)
section
variable {P : Program} {N : Sh} {Q : Exit → Act → World → Prop} {L : List (Nat × Value)} {w0 w : World}
theorem zI {g : Operand} {ps : List Nat} {assign body : Code} {fv : Value} {R : HP} {n : Nat} {E : Nat → List Value → HP → Prop} (hg : ev L g = some fv) (hit : Iter P w0 fv R n E) (I : Nat → HP) (Xr : HP) (Xe : Nat → HP) (H : V w0 w (I 0 • R))
    (hps : ps.all (· < N.n) = true)
    (hbody : ∀ l k, k < n → ∀ vs A, E k vs A → ∀ G W, V w0 W (A • I k • G) → vs.length = ps.length ∧ WC P ⟨N.n, [], some l⟩ assign (Exit.then (RU P ⟨N.n, [], some l⟩ w0 body (I (k + 1)) Xr Xe G) VK) (Qs ps vs L) W)
    (hdone : ∀ D W, V w0 W (dS D (.deferred (some [])) • I n • R) → WQ ⟨N.n, D :: N.ds, none⟩ Q .normal L W)
    (hret : ∀ D W, V w0 W (dS D (.deferred (some [])) • Xr • R) → WQ ⟨N.n, D :: N.ds, none⟩ Q .ret L W)
    (ack : ∀ id D W, V w0 W (dS D (.deferred (some [])) • Xe id • R) → WQ ⟨N.n, D :: N.ds, none⟩ Q (.exit id) L W)
    (hro : N.ro = none := by rfl) : WC P N (.rangeFunc g ps.toArray assign body) Q L w := fun np a ha => by
  rw [hro]
  refine wpIn_rangeFunc fun fn _ => ?_
  let tY : LoopState → Option Code → Loop := fun s j => { state := s, pending := j, fn, tmps := a.tmps, params := ps.toArray, assign, body, defers := w.heap.size }
  have adF := run_enterLoop_outer (P := P) (w := w) fn a.tmps ps.toArray assign body
  have H1 : V w0 ((w.alloc (.deferred (some []))).alloc (.loop (tY .ready none))) (dS (w.heap.size + 1) (.loop (tY .ready none)) • dS w.heap.size (.deferred (some [])) • I 0 • R) := by
    have := (H.alloc (.deferred (some []))).alloc (.loop (tY .ready none))
    rw [World.size_alloc] at this
    exact this
  let Lk : LoopState → Option Code → HP := fun s j => dS (w.heap.size + 1) (.loop (tY s j)) • dS w.heap.size (.deferred (some []))
  have aaF : ∀ k, k < n → ∀ vs A, E k vs A → ∀ G W, V w0 W (A • (Lk .ready none • I k) • G) → LM P (w.heap.size + 1) vs W fun v W' => (v = .bool true ∧ V w0 W' ((Lk .ready none • I (k + 1)) • G)) ∨
      (v = .bool false ∧ V w0 W' (uf (fun c : Code => Lk .done (some c) • (match c with | .ret => Xr | .exit id => Xe id | _ => fact False)) • G)) := by
    intro k hk vs A hE G W HW
    have e1 : (A • (Lk .ready none • I k) • G) = (dS (w.heap.size + 1) (.loop (tY .ready none)) • A • I k • dS w.heap.size (.deferred (some [])) • G) := by
      show (A • ((dS (w.heap.size + 1) (.loop (tY .ready none)) • dS w.heap.size (.deferred (some []))) • I k) • G) = _
      ac_rfl
    have HW1 := HW.of_eq e1
    have hl := HW1.get.2
    have hlen := (hbody (w.heap.size + 1) k hk vs A hE _ W (HW1.of_eq (show _ = (A • I k • dS (w.heap.size + 1) (.loop (tY .ready none)) • dS w.heap.size (.deferred (some [])) • G) by ac_rfl))).1
    refine ⟨fn, _, assign, body, run_yield hl (by rw [List.size_toArray, hlen]; exact List.size_toArray.symm), ?_⟩
    have hfit : Fits ⟨N.n, [], some (w.heap.size + 1)⟩ (Qs ps vs L) { tmps := (ps.toArray.zip vs.toArray).foldl (fun tmps (t, a) => tmps.setIfInBounds t a) a.tmps, defers := [] } := by
      have := N8 (n := N.n) (l := w.heap.size + 1) ps vs L a.tmps (fun p hp => by simpa using List.all_eq_true.1 hps p hp) ⟨ha.size, rfl, ha.at_⟩
      simpa using this
    refine roundIn_of_wpIn trivial ?_
    have HW2 : V w0 W (A • I k • dS (w.heap.size + 1) (.loop (tY .ready none)) • dS w.heap.size (.deferred (some [])) • G) := HW1.of_eq (by ac_rfl)
    have hb := (hbody (w.heap.size + 1) k hk vs A hE _ W HW2).2 (fun c a w h => h) _ hfit
    refine wpIn_mono hb ?_
    rintro e a1 W1 hq
    cases e with
    | exit id => exact hq.elim
    | goto l => exact hq.elim
    | ret => exact hq.elim
    | panic c => exact hq.elim
    | outgrown => exact hq.elim
    | normal =>
      obtain ⟨L1, B, hf1, HB, hgo⟩ := hq
      have HB1 : V w0 W1 (dS (w.heap.size + 1) (.loop (tY .ready none)) • B • dS w.heap.size (.deferred (some [])) • G) := HB.of_eq (by ac_rfl)
      have hl1 := HB1.get.2
      refine ⟨_, run_beginRound hl1 rfl, ?_⟩
      have HB2 : V w0 (W1.putObj (w.heap.size + 1) (.loop (tY .busy none))) (dS (w.heap.size + 1) (.loop (tY .busy none)) • B • dS w.heap.size (.deferred (some [])) • G) := HB1.turn rfl rfl rfl (by simp) (World.putObj_heap_same HB1.lt) fun k hk _ => World.putObj_heap_other hk
      have hbd := hgo (dS (w.heap.size + 1) (.loop (tY .busy none)) • dS w.heap.size (.deferred (some [])) • G) _ (HB2.of_eq (by ac_rfl)) VN a1 hf1
      refine wpIn_mono hbd ?_
      have fin : ∀ (j : Option Code) (W3 : World) (A3 : HP), V w0 W3 (A3 • dS (w.heap.size + 1) (.loop (tY .busy none)) • dS w.heap.size (.deferred (some [])) • G) →
          (Instr.endRound (w.heap.size + 1) j).run P W3 = .ok (.bool j.isNone) (W3.putObj (w.heap.size + 1) (.loop (tY (if j.isNone then .ready else .done) j))) ∧
          V w0 (W3.putObj (w.heap.size + 1) (.loop (tY (if j.isNone then .ready else .done) j))) ((Lk (if j.isNone then .ready else .done) j • A3) • G) := by
        intro j W3 A3 H3
        have H4 := H3.swap
        refine ⟨run_endRound j H4.get.2, ?_⟩
        have H5 : V w0 (W3.putObj (w.heap.size + 1) (.loop (tY (if j.isNone then .ready else .done) j))) (dS (w.heap.size + 1) (.loop (tY (if j.isNone then .ready else .done) j)) • A3 • dS w.heap.size (.deferred (some [])) • G) := H4.turn rfl rfl rfl (by simp) (World.putObj_heap_same H4.lt) fun k hk _ => World.putObj_heap_other hk
        refine H5.of_eq ?_
        show _ = (((dS (w.heap.size + 1) (.loop (tY (if j.isNone then .ready else .done) j)) • dS w.heap.size (.deferred (some []))) • A3) • G)
        ac_rfl
      rintro e a3 W3 hp
      cases e with
      | normal => obtain ⟨h1, h2⟩ := fin none W3 _ hp; exact ⟨_, _, h1, _, rfl, .inl ⟨rfl, h2⟩⟩
      | ret => obtain ⟨h1, h2⟩ := fin (some .ret) W3 _ hp; exact ⟨_, _, h1, _, rfl, .inr ⟨rfl, V.iV .ret h2⟩⟩
      | exit id => obtain ⟨h1, h2⟩ := fin (some (.exit id)) W3 _ hp; exact ⟨_, _, h1, _, rfl, .inr ⟨rfl, V.iV (.exit id) h2⟩⟩
      | goto l => exact hp.elim
      | panic c => exact hp.elim
      | outgrown => exact hp.elim
  have hcall := hit (w.heap.size + 1) (fun k => Lk .ready none • I k) _ _ aaF (H1.of_eq (by
    show _ = (((dS (w.heap.size + 1) (.loop (tY .ready none)) • dS w.heap.size (.deferred (some []))) • I 0) • R)
    ac_rfl))
  obtain ⟨f, first, cap, fn', c, rfl, hf, hn, hb, acm⟩ := hcall
  refine ⟨w.heap.size + 1, _, _, { target := .fn (.func f) cap.toArray, args := (first ++ [Value.func (.yield (w.heap.size + 1)) #[] #[]]).toArray }, (w.alloc (.deferred (some []))).alloc (.loop (tY .ready none)), f, _, (w.alloc (.deferred (some []))).alloc (.loop (tY .ready none)), adF, ?_, fun _ _ => trivial, ?_, (fun h => by cases h), Vf.2 (Calls.mono acm ?_)⟩
  · have he := ha.ev hg
    have he2 : a.eval (.const (.func (.yield (w.heap.size + 1)) #[] #[])) = .func (.yield (w.heap.size + 1)) #[] #[] := rfl
    simp [resolve, rangeCall, he, he2, Deferred.ofValue, tY]
  · simp [invoke, callFunc, hf, hb]
    simpa using hn
  · rintro e W2 ⟨v, rfl, hv⟩
    have fin : ∀ (s : LoopState) (j : Option Code) (A : HP), s ≠ .busy → V w0 W2 ((Lk s j • A) • R) → (Instr.endLoop (w.heap.size + 1)).run P W2 = .ok j (W2.putObj (w.heap.size + 1) (.loop (tY .exhausted j))) ∧
        V w0 (W2.putObj (w.heap.size + 1) (.loop (tY .exhausted j))) (dS w.heap.size (.deferred (some [])) • A • R) := by
      intro s j A hs H3
      have H4 : V w0 W2 (dS (w.heap.size + 1) (.loop (tY s j)) • dS w.heap.size (.deferred (some [])) • A • R) := H3.of_eq (by
        show (((dS (w.heap.size + 1) (.loop (tY s j)) • dS w.heap.size (.deferred (some []))) • A) • R) = _
        ac_rfl)
      refine ⟨run_endLoop H4.get.2 hs, ?_⟩
      have H5 : V w0 (W2.putObj (w.heap.size + 1) (.loop (tY .exhausted j))) (dS (w.heap.size + 1) (.loop (tY .exhausted j)) • dS w.heap.size (.deferred (some [])) • A • R) := H4.turn rfl rfl rfl (by simp) (World.putObj_heap_same H4.lt) fun k hk _ => World.putObj_heap_other hk
      exact H5.right
    have hfit : Fits ⟨N.n, w.heap.size :: N.ds, none⟩ L { a with defers := [{ target := .collected w.heap.size, args := #[] }] ++ a.defers } := ⟨ha.size, by simp [ha.defers, Ve], ha.at_⟩
    rcases hv with hv | hv
    · obtain ⟨h1, h2⟩ := fin _ _ _ (by decide) hv
      exact ⟨none, _, h1, hdone _ _ h2 np _ hfit⟩
    · obtain ⟨c, hv⟩ := hv.lZ
      obtain ⟨h1, h2⟩ := fin _ _ _ (by decide) hv
      cases c with
      | ret => exact ⟨some .ret, _, h1, wpIn_ret (hret _ _ h2 np _ hfit)⟩
      | exit id => exact ⟨some (.exit id), _, h1, wpIn_exit (ack id _ _ h2 np _ hfit)⟩
      | _ => exact absurd h2.swap.fact.1 id
end
end Go.Proofs.YtpdeedplgmbopaaGreatDoor
end
section
namespace Go.Proofs.YtpdeedplgmbopaaGreatDoor
open Go.RowKit
open _root_.Go.Proofs.Tryz
def mZ (G : List (List jq)) (N : List jq) : List (List jq) := if N = [] then G else G ++ [N]
theorem Qu {G : List (List jq)} {N : List jq} (h : N = []) : mZ G N = G := by unfold mZ; rw [if_pos h]
theorem rZ {G : List (List jq)} {N : List jq} (h : N ≠ []) : mZ G N = G ++ [N] := by unfold mZ; rw [if_neg h]
theorem Ia {G : List (List jq)} {N : List jq} : jd (mZ G N) [] = jd G N := by
  unfold mZ; split
  · rename_i h; rw [h]
  · simp [jd]
section
variable {w0 w : World} {F : HP} {p : Nat} {G : List (List jq)} {N : List jq} {op : Int} {gv nv v : Value} {gs : List (Value × List eG)} {now es : List eG} {a : Int} {d z : Value} {dl il : List Int}
theorem AP (H : V w0 w (jl p G N op • F)) : ig prog 177 #[.pointer (some ⟨p, 0, none⟩)] w fun _ w' => V w0 w' (jl p (mZ G N) [] 0 • F) := by
 refine iK func177 ntmps177 ?_
 refine aK (aK ?_)
 obtain ⟨BX, zF, oJ, nH, lN, wK, uz, Ht, Hu, NY, rP⟩ := (H).y8
 refine aA (nZ O O (bK 0 bJ O dG O (bK 1 bU O bV O (gJ aZ O (rP).get.2 O (Z (jU ((rP.f4).aY) aZ O) (Z (iw O O) (gQ O (fun h1 => ?_) (fun h1 => ?_))))))))
 ·(try simp only [aC] at h1)
  have acn : 0 < nH.length := by omega
  have Qv := rP.drew
  have oQ := V.kp (Qv.f5.f5.f5.f5.f5)
  refine yY [5, 10] oQ O (jW 0 O oQ O (jW 1 O oQ O (kV 2 O oQ O (iJ 3 O oQ 0 bJ O dG O (iJ 4 O oQ 0 bU O fJ O (kK 5 O oQ (fun W hW => kQ bH O ((Kp.h hW)).get.2 O) (jW 6 O oQ O (kV 7 O oQ O (iJ 8 O oQ 0 bJ O dG O (iJ 9 O oQ 1 bU O bV O (kK 10 O oQ (fun W hW => kQ aZ O ((Kp.h hW)).get.2 O) (oV 11 O (kH (vs := [_]) Qv bH bV lS O O O (by decide) (bf (by first | rfl | exact Rd.one ((Qv.f4).aY)) bP)) ?_))))))))))))
  rintro l2 w2 H2
  have yD := V.kp (H2.f6.f6.f6.f6.f6.f6)
  refine eU yD (fun W hW => (Kp.h hW).right.f5.f5.f5.f5.f5) ?_
  refine oV 12 O (gZ H2.f3 bH FD O O O ((H2).aY) (bf (by first | rfl | exact Rd.one ((H2.f5).aY)) bP) (by omega) (by omega)) ?_
  rintro l3 w3 H3
  have Hd4 := H3.f2.right
  have nK := V.kp (Hd4.f5.f5.f5.f5.f5)
  refine iD nK (by kernel_rfl) ?_
  refine kV 13 O nK O (iJ 14 O nK 0 bJ O dG O (iJ 15 O nK 0 bU O fJ O ?_))
  refine gX 16 O (by kernel_rfl) (fQ 0 (l' := [_, _, _, _, _]) Hd4.f2 fJ O O (by first | rfl | exact Rd.one ((Hd4).aY)) O O) ?_
  rintro _ w5 H5
  have AQ := V.kp (H5.f5.f5.f5.f5.f5)
  refine iD AQ (by kernel_rfl) ?_
  refine sK (aW (aA (jr O O (dQ O (bK 0 bJ O dG O (bK 1 bU O bV O (aO (YA 1 H5 bV) ?_)))))))
  rintro _ w6 H6
  refine dQ O (bK 0 bJ O dG O (bK 2 bU O aF O (aO (YA 2 H6 aF) ?_)))
  rintro _ w7 H7
  refine bD (mO (.inr O) results177 ?_)
  have hN : N ≠ [] := by rintro rfl; exact absurd Hu (by simp only [List.length_nil]; omega)
  rw [rZ hN]
  have X := V.qF (v := zF) (es := nH) (H7.f3.f3.f5.f5).deep
  have X4 := V.rY X.swap
  refine V.xu (gv := l3) (nv := .slice none 0 0) (gs := oJ ++ [(zF, nH)]) (now := []) (ed := (jd G N : Nat)) ⟨RQ lN.1 hN, by rw [← rZ hN, Ia]; exact lN.2.1, by decide, by decide, NW lN.2.2.2.2.1 lN.2.2.2.2.2, by simp⟩ (by rw [List.map_append, wK, ← uz]; rfl) O (by rw [← rZ hN, Ia]) ((X4.tu none).of_eq (by ac_rfl))
 ·(try simp only [aC] at h1)
  have acn : nH.length = 0 := by omega
  refine fG (aA (jr O O (dQ O (bK 0 bJ O dG O (bK 1 bU O bV O (aO (YA 1 rP bV) ?_))))))
  rintro _ w8 H8
  refine dQ O (bK 0 bJ O dG O (bK 2 bU O aF O (aO (YA 2 H8 aF) ?_)))
  rintro _ w9 H9
  refine bD (mO (.inr O) results177 ?_)
  have hN : N = [] := by rw [← uz, List.eq_nil_of_length_eq_zero acn]; rfl
  subst hN
  rw [Qu rfl]
  refine V.xu (gv := BX) (nv := .slice none 0 0) (gs := oJ) (now := []) (ed := (jd G [] : Nat)) ⟨lN.1, lN.2.1, by decide, by decide, lN.2.2.2.2⟩ wK O O (((H9.f4.right.f4.right.f3.f3).tu none).of_eq (by unfold CZ; ac_rfl))
theorem V.LQ (H : V w0 w (Cm v es • F)) : V w0 w (Cm v es • Cm v es • F) := H.sO
theorem TW (b : Nat) : Iter prog w0 (.func (.func 210) #[] #[.pointer (some ⟨b, 0, none⟩)]) (dS b (.cells #[v] 80 (0, 0)) • Cm v es) es.length
  (fun k vs A => vs = [.int .i64 ((es.length - (k + 1) : Nat) : Int), .agg (es.getD (es.length - (k + 1)) default).enc.toArray] ∧ A = Cm v es) := by
 intro l J X w hy H
 refine ⟨210, [], [.pointer (some ⟨b, 0, none⟩)], _, _, O, func210, O, O, ?_⟩
 have H1 : V w0 w (dS b (.cells #[v] 80 (0, 0)) • Cm v es • J 0) := H.of_eq (by ac_rfl)
 obtain ⟨a, c, hv, hc1, hc2, _⟩ := (H1.swap.vY).form
 subst hv
 simp only [List.nil_append, List.cons_append]
 refine TG func210 ntmps210 ?_
 dsimp only [vW, Nat.reduceAdd]
 refine gW (gJ aZ O (H1).get.2 O (Z (jU ((H1.f2).vY) aZ O) (Z (iG O O (by omega)) (fV O (aV ?_)))))
 refine dJ [(0, _), (1, _)] (fun (k : Nat) => [(3, .int .i64 ((k : Int) - 1))]) (fun (k : Nat) W => k ≤ es.length ∧ V w0 W (dS b (.cells #[.slice a es.length c] 80 (0, 0)) • Cm (.slice a es.length c) es • J (es.length - k))) (fun (k : Nat) => k) (es.length) mW ji ⟨by omega, by rw [Nat.sub_self]; exact H1⟩ ?_
 rintro k w1 ⟨hk, HL⟩
 dsimp only [List.cons_append, List.nil_append]
 refine aK (bM O (Z (jw O O) (gQ O (fun h1 => ?_) (fun h1 => ?_))))
 ·(try simp only [aC] at h1)
  refine fG (aK (aV (aK ?_)))
  obtain ⟨m, rfl⟩ : ∃ m, k = m + 1 := ⟨k - 1, by omega⟩
  rw [show (((m + 1 : Nat) : Int) - 1) = (m : Int) from by omega]
  refine aA (jr O O (gJ aZ O (HL).get.2 O (bG O ?_)))
  obtain ⟨bv, ov, cv, ev⟩ := Rd.nJ ((HL.f2).vY) (by omega)
  cases ev
  refine Z (dh aZ fA O O (by omega)) (Z (rX (ys := [_, _, _]) ((HL.f2).vY) (by omega) dK O fA O (uy eG.DY (by omega) default) O) (jL (LP O O (hy (es.length - (m + 1)) (by omega) _ _ ⟨by rw [show es.length - (es.length - (m + 1) + 1) = m from by omega]; rfl, O⟩ (Cm (.slice (some ⟨bv, ov, none⟩) es.length c) es • dS b (.cells #[.slice (some ⟨bv, ov, none⟩) es.length c] 80 (0, 0))) _ (HL.swap.LQ.of_eq (by ac_rfl))).bool) ?_))
  rintro _ w2 ⟨t, rfl, ht1, ht2⟩
  refine Z (mD O) (gQ O (fun h2 => ?_) (fun h2 => ?_))
  ·(try simp only [aC] at h2)
   have HX := ht2 (by simpa using h2)
   refine mg (aN (ay (ay (aN (we0 results210 ?_)))))
   exact .inr (HX.of_eq (by ac_rfl))
  ·(try simp only [aC] at h2)
   have HN : V w0 w2 (dS b (.cells #[.slice (some ⟨bv, ov, none⟩) es.length c] 80 (0, 0)) • Cm (.slice (some ⟨bv, ov, none⟩) es.length c) es • J (es.length - m)) := by
    have h9 := ht1 (by simpa using h2)
    rw [show es.length - (m + 1) + 1 = es.length - m from by omega] at h9
    exact h9.of_eq (by ac_rfl)
   refine bY (aG (aW (aA (bG O (Z (iG O O (by omega)) (dL O (bD ?_)))))))
   refine bZ (m) ?_ ?_ ?_ ?_
   ·exact ji
   ·exact mW
   ·(try dsimp only)
    first | done | exact ⟨by omega, HN.f2.f2⟩
   ·(try dsimp only); omega
 ·(try simp only [aC] at h1)
  refine bQ (aB (aB (aU (mO (.inr O) results210 ?_))))
  obtain rfl : k = 0 := by omega
  rw [Nat.sub_zero] at HL
  exact .inl (HL.of_eq (by ac_rfl))
end
def Ib (e : jq) : jq := (e.1, e.2.2, e.2.1)
def VO (c : Nat) (es : List eG) (k : Nat) : HP := uf fun (x : Value × List eG) => fact (x.2.map eG.says = ((es.map eG.says).reverse.take k).map Ib) • dS c (.cells #[x.1] 80 (0, 0)) • Kw x.1 x.2
theorem VP {es : List eG} {k : Nat} (hk : k < es.length) : ((es.map eG.says).reverse.take (k + 1)).map Ib = ((es.map eG.says).reverse.take k).map Ib ++ [Ib (es.getD (es.length - (k + 1)) default).says] := by
  rw [List.take_succ_eq_append_getElem (by simpa using hk), List.map_append]
  congr 1
  simp only [List.map_cons, List.map_nil, List.getElem_reverse, List.getElem_map, List.length_map]
  rw [List.getD_eq_getElem?_getD, List.getElem?_eq_getElem (by omega)]
  have e : es.length - 1 - k = es.length - (k + 1) := by omega
  simp only [Option.getD_some, e]
section
variable {w0 w : World} {F : HP} {p : Nat} {G : List (List jq)} {N : List jq} {op : Int} {gv nv v : Value} {gs : List (Value × List eG)} {now es : List eG} {a : Int} {d z : Value} {dl il : List Int}
theorem V.N9 {c k : Nat} (H : V w0 w (VO c es k • F)) : ∃ u fs, fs.map eG.says = ((es.map eG.says).reverse.take k).map Ib ∧ fs.length ≤ es.length ∧ V w0 w (dS c (.cells #[u] 80 (0, 0)) • Row 189 3 u fs.length (fs.flatMap eG.enc) • kW fs • F) := by
  obtain ⟨⟨u, fs⟩, H⟩ := H.lZ
  obtain ⟨h, H⟩ := H.flat.fact
  refine ⟨u, fs, h, ?_, ?_⟩
  · have := congrArg List.length h
    simp at this
    omega
  · have := H.flat
    unfold Kw at this
    exact this.of_eq (by ac_rfl)
theorem V.VQ {c k : Nat} {u : Value} {fs : List eG} (h : fs.map eG.says = ((es.map eG.says).reverse.take k).map Ib) (H : V w0 w (dS c (.cells #[u] 80 (0, 0)) • Kw u fs • F)) : V w0 w (VO c es k • F) :=
  V.iV (u, fs) (V.deep (V.kR h H.deep))
theorem V.aaG (H : V w0 w (Cm v es • F)) {k : Nat} (hk : k < es.length) : V w0 w (nD .i32 (es.getD k default).d (es.getD k default).dl • nD .i32 (es.getD k default).i (es.getD k default).il • Cm v es • F) := by
  have h1 : V w0 w (nD .i32 (es.getD k default).d (es.getD k default).dl • Cm v es • Cm v es • F) := H.LQ.LQ.EF (pI (fun I h => (h.2 k hk).1) _)
  have h2 : V w0 w (nD .i32 (es.getD k default).i (es.getD k default).il • nD .i32 (es.getD k default).d (es.getD k default).dl • Cm v es • F) := h1.swap.EF (pI (fun I h => (h.2 k hk).2) _)
  exact h2.swap
theorem TY (H : V w0 w F) (hv : v.oneCell' = true) : ig prog 197 #[v] w fun v' w' => ∃ b, v' = .func (.func 210) #[] #[.pointer (some ⟨b, 0, none⟩)] ∧ V w0 w' (dS b (.cells #[v] 80 (0, 0)) • F) := by
  refine iK func197 ntmps197 ?_
  refine gW (jL (jf (l := [_]) H O (by first | rfl | exact BH (by first | rfl | assumption))) ?_)
  rintro _ w1 ⟨b1, rfl, H1⟩
  refine fV O (gW (Z (wY O O) (dU O (dF results197 O ?_))))
  exact ⟨_, O, H1⟩
theorem D6 (H : V w0 w (Cm v es • F)) (hB : ∀ k, k < es.length → EB (es.getD k default).says) (hL : es.length ≤ 16384) :
  ig prog 178 #[v] w fun v' w' => ∃ fs : List eG, fs.map eG.says = (es.map eG.says).reverse.map Ib ∧ V w0 w' (Row 189 3 v' fs.length (fs.flatMap eG.enc) • kW fs • Cm v es • F) := by
 refine iK func178 ntmps178 ?_
 refine jy O (gW (jL (gK (l := [_]) H lS O) ?_))
 rintro _ w1 ⟨b1, rfl, H1⟩
 refine qW (bM O (dX O func197 (TY H1 (Rd.one ((H1.f2).vY))) ?_))
 rintro _ w2 ⟨bB2, rfl, H2⟩
 refine iy (aV ?_)
 have Ua := H2.f2
 have RV := V.VQ (es := es) (k := 0) (fs := []) rfl (Ua.tu none).swap
 refine zI O (TW bB2) (fun k => VO b1 es k • F) (fact False) (fun _ => fact False) (RV.f3.f3.f3.f3.f3.g2.comm) (by rfl) ?_ ?_ ?_ ?_
 ·rintro l5 k aaH vs5 A5 ⟨rfl, rfl⟩ G5 w5 H5
  try simp only [dB, og, wH] at H5
  refine ⟨O, ?_⟩
  dsimp only [Qs]
  have Hq := (H5).aaG (k := es.length - (k + 1)) (by omega)
  obtain ⟨hb1, hb2⟩ := hB (es.length - (k + 1)) (by omega)
  have hb1 : (es.getD (es.length - (k + 1)) default).dl.length ≤ 35184372087808 := hb1
  have hb2 : (es.getD (es.length - (k + 1)) default).il.length ≤ 35184372087808 := hb2
  obtain ⟨u, fs, hfs, hfl, HI⟩ := (Hq.f4).N9
  refine aA (jL (gK (l := [_, _, _]) HI iO O) ?_)
  rintro _ w6 ⟨b6, rfl, H6⟩
  refine aO (dw 0 (l' := [_, _, _]) (us := [_, _, _]) H6 fA O O O (aH (bf (by first | rfl | exact Rd.one ((H6.f5).jV)) (bf (by first | rfl | exact Rd.one ((H6.f6).jV)) bP))) O O) ?_
  rintro _ w7 H7
  refine bD ?_
  refine Qr (H7.g8) ?_
  intro G8 w8 H8
  try simp only [dB] at H8
  refine aV ?_
  have aco := H8.drew
  have VR := V.kp (aco.f7.f7.f7.f7.f7.f7.f7)
  refine yY [0, 1] VR O (kK 0 O VR (fun W hW => kQ aZ O ((Kp.h hW).f2).get.2 O) (kK 1 O VR (fun W hW => fP dK O fA O O ((Kp.h hW)).get.2) (oV 2 O (zx O func198 (EM aco (fun W HW => (HW.f5).jV) (fun W HW => (HW.f6).jV) (by omega) (by omega))) ?_)))
  rintro _ w9 ⟨d9, s9, rfl, H9⟩
  have Qo := V.kp (H9.f9.f9.f9.f9.f9.f9.f9.f9.f9)
  refine eU Qo (fun W hW => (Kp.h hW).right.right.f7.f7.f7.f7.f7.f7.f7) ?_
  refine oV 3 O (wP H9 aZ fA iO O O O (by decide) (by decide)) ?_
  rintro l10 w10 rD
  have VT := V.kp (rD.f10.f10.f10.f10.f10.f10.f10.f10.f10.f10)
  refine eU VT (fun W hW => (Kp.h hW).right.f9.f9.f9.f9.f9.f9.f9.f9.f9) ?_
  refine oV 4 O (gZ rD.f6 aZ AO O O O ((rD).aY) (aH (bf (by first | rfl | exact Rd.one ((rD.f2).aY)) (bf (by first | rfl | exact Rd.one ((rD.f3).aY)) bP))) (by omega) (by omega)) ?_
  rintro l11 ED rM
  have Jy := rM.f2.right
  have Hz := V.kp (Jy.f9.f9.f9.f9.f9.f9.f9.f9.f9)
  refine iD Hz (by kernel_rfl) ?_
  refine gX 5 O (by kernel_rfl) (fQ 0 (l' := [_]) Jy.f5 bV O O (by first | rfl | exact Rd.one ((Jy).aY)) O O) ?_
  rintro _ PO xM
  have wE := V.kp (xM.f9.f9.f9.f9.f9.f9.f9.f9.f9)
  refine iD wE (by kernel_rfl) ?_
  refine sK (aG ?_)
  refine HY ?_
  have X := (xM.f5.right.f6.right.f6.right.f6.right.f6.f2.f6.f4.f6.f6).pY.swap.pY.swap
  have X2 := V.DZ X.f3
  exact (V.VQ (es := es) (k := k + 1) (by rw [List.map_append, hfs, VP (by omega)]; rfl) X2.swap).deep
 ·rintro D14 TN BJ
  have VU := BJ.ed
  try simp only [dB, og, wH] at VU
  have aaI := VU.RG
  obtain ⟨u, fs, hfs, hfl, HI⟩ := (aaI.f4).N9
  refine aG (aW (gW (gJ aZ O (HI).get.2 O (dU O ?_))))
  refine Gi (.inl O) (HI.f4) (fun TV zH => ?_)
  refine ⟨_, aaq results178 O, ?_⟩
  rw [List.take_of_length_le (by simp)] at hfs
  exact ⟨_, hfs, zH.right.f3.right.f3.f3.f3⟩
 ·rintro D w H; exact absurd H.swap.fact.1 id
 ·rintro id D w H; exact absurd H.swap.fact.1 fun h => h
end
def VW (G : List (List jq)) (N : List jq) : Int := if G.length + N.length = 0 then 6 else 0
def RY (G : List (List jq)) (N : List jq) : List (List jq) := if G.length + N.length = 0 then G else (mZ G N).dropLast
def RZ (G : List (List jq)) (N : List jq) : List jq := if G.length + N.length = 0 then N else []
def Si (G : List (List jq)) (N : List jq) (op : Int) : Int := if G.length + N.length = 0 then op else 0
def ZN (G : List (List jq)) (N : List jq) : List jq := if G.length + N.length = 0 then [] else ((mZ G N).getLastD []).reverse.map Ib
theorem Ky {G : List (List jq)} {g N : List jq} : jd (G ++ [g]) N = jd G N + g.length := by simp [jd]; omega
section
variable {w0 w : World} {F : HP} {p : Nat} {G : List (List jq)} {N : List jq} {op : Int} {gv nv v : Value} {gs : List (Value × List eG)} {now es : List eG} {a : Int} {d z : Value} {dl il : List Int}
theorem Qw (h : ¬ G.length + N.length = 0) : mZ G N ≠ [] := by
  unfold mZ; split
  · rename_i hN; rintro rfl; subst hN; exact h rfl
  · simp
theorem V.Qx (H : V w0 w (jl p G [] op • F)) (hG : G ≠ []) : ∃ gv nv hs gl xO, G = hs.map (fun g => g.2.map eG.says) ++ [xO.map eG.says] ∧ YM G [] op ∧ G.length = hs.length + 1 ∧ hs.length ≤ 16384 ∧ xO.length ≤ 16384 ∧ (∀ k, k < xO.length → EB (xO.getD k default).says) ∧
    V w0 w (dS p (.cells #[gv, nv, .int .i64 op, .int .i64 (jd G [] : Nat), .bool true] 235 (0, 0)) • Row 80 1 gv (hs.length + 1) (hs.map (·.1) ++ [gl]) • oH hs • Cm gl xO • Kw nv [] • F) := by
  obtain ⟨gv, nv, gs, now, h1, h2, h3, h4, h5, h6, H⟩ := H.y8
  obtain rfl : now = [] := List.eq_nil_of_length_eq_zero (by simpa using h5)
  rcases List.eq_nil_or_concat gs with rfl | ⟨hs, ⟨gl, xO⟩, rfl⟩
  · exact absurd h2.symm hG
  · have hG2 : G = hs.map (fun g => g.2.map eG.says) ++ [xO.map eG.says] := by rw [← h2]; simp
    have hle : xO.length ≤ 16384 := by
      have := h1.2.1
      rw [hG2, Ky] at this
      simp at this
      omega
    refine ⟨gv, nv, hs, gl, xO, hG2, h1, ?_, ?_, hle, fun k hk => ?_, ?_⟩
    · rw [hG2]; simp
    · rw [hG2] at h6; simp at h6; omega
    · refine h1.2.2.2.2.1 (xO.map eG.says) (by rw [hG2]; simp) _ ?_
      rw [List.getD_eq_getElem?_getD, List.getElem?_eq_getElem hk]
      exact List.mem_map_of_mem (List.getElem_mem hk)
    · rw [List.concat_eq_append, List.length_append, List.map_append] at H
      have H1 := (H.f3.NU (k := hs.length) (by simp)).swap
      rw [show (hs ++ [(gl, xO)]).getD hs.length default = (gl, xO) from by simp [List.getD_eq_getElem?_getD]] at H1
      have H2 := H1.NV hs.length
      rw [List.take_left' rfl] at H2
      exact H2.of_eq (by unfold Kw; ac_rfl)
theorem CB (H : V w0 w (jl p G N op • F)) : ig prog 136 #[.pointer (some ⟨p, 0, none⟩)] w fun v w' => ∃ u, ∃ fs : List eG, v = .tuple #[u, .int .i64 (VW G N)] ∧ fs.map eG.says = ZN G N ∧
  V w0 w' (Row 189 3 u fs.length (fs.flatMap eG.enc) • kW fs • jl p (RY G N) (RZ G N) (Si G N op) • F) := by
 unfold VW ZN RY RZ Si
 refine iK func136 ntmps136 ?_
 refine gW (dL O (tX O (bM O (dX O func158 (nM H) ?_))))
 rintro _ _ ⟨rfl, rfl⟩
 refine iy (oD (fG (aK (aK ?_))))
 obtain ⟨BX, zF, oJ, nH, lN, wK, uz, Ht, Hu, NY, rP⟩ := (H).y8
 have BZ := rP.drew
 have iL := V.kp (BZ.f5.f5.f5.f5.f5)
 refine yY [4, 10] iL O (jW 0 O iL O (kV 1 O iL O (iJ 2 O iL 0 bJ O dG O (iJ 3 O iL 0 bU O fJ O (kK 4 O iL (fun W hW => kQ bH O ((Kp.h hW)).get.2 O) (jQ 5 O iL (fun _ => jU ((BZ.f2).aY) bH O) (jW 6 O iL O (kV 7 O iL O (iJ 8 O iL 0 bJ O dG O (iJ 9 O iL 1 bU O bV O (kK 10 O iL (fun W hW => kQ aZ O ((Kp.h hW)).get.2 O) (jQ 11 O iL (fun _ => jU ((BZ.f4).aY) aZ O) (jQ 12 O iL (fun _ => dP O O (by omega)) (jQ 13 O iL (fun _ => cZ O O) (sK (aW (bI O (fun h1 => ?_) (fun h1 => ?_))))))))))))))))))
 ·(try simp only [aC] at h1)
  have hGN : G.length + N.length = 0 := by omega
  have Qk := BZ.f5.f5.f5.f5.f5
  have PN := V.oI lN wK uz rfl Qk
  refine gW (dL O (dU O (ay (Az results136 O O ?_))))
  simp only [if_pos hGN]
  exact ⟨_, [], O, O, ((PN).tu none).edL⟩
 ·(try simp only [aC] at h1)
  have hGN : ¬ G.length + N.length = 0 := by omega
  have VX := BZ.f5.f5.f5.f5.f5
  have VY := V.oI lN wK uz rfl VX
  refine fG (bM O (dX O func177 (AP VY) ?_))
  rintro _ w9 H9
  refine qW ?_
  obtain ⟨gv, nv, hs, gl, xO, hG, hok, hl1, hl2, hl3, hEB, HU⟩ := (H9).Qx (Qw hGN)
  have htot := hok.2.1
  refine aA (nZ O O (bK 0 bJ O dG O (bK 0 bU O fJ O (gJ bH O (HU).get.2 O (Z (jU ((HU.f2).aY) bH O) (Z (iG O O (by omega)) (fV O (bM O (dQ O (bK 0 bJ O dG O (bK 0 bU O fJ O (gJ bH O (HU).get.2 O (bG O ?_)))))))))))))
  obtain ⟨bgv, ogv, cgv, egv⟩ := Rd.nJ ((HU.f2).aY) (by omega)
  cases egv
  refine Z (dh bH bV O O (by omega)) ?_
  refine Z (dH (bT aZ O) O (by first | exact Rd.jo ((HU.f2).aY) (by omega) | exact Rd.qB ((HU.f2).aY) (by omega) | exact Rd.qx ((HU.f2).aY) (by omega))) ?_
  rw [show (hs.map (·.1) ++ [gl]).getD ((((hs.length + 1 : Nat)) : Int) - 1).toNat undef = gl from by rw [show ((((hs.length + 1 : Nat)) : Int) - 1).toNat = hs.length from by omega]; simp [List.getD_eq_getElem?_getD]]
  refine fV O (bM O (nZ O O (bK 0 bJ O dG O (bK 0 bU O fJ O (gJ bH O (HU).get.2 O (bG O (Z (y5 ((HU.f2).aY) bH bV O O O (by omega)) ?_)))))))
  refine dQ O (bK 0 bJ O dG O (bK 0 bU O fJ O (aO (fQ 0 (l' := [_, _, _, _, _]) HU fJ O O (by first | rfl | exact Rd.one (Rd.acg ((HU.f2).aY) (by omega))) O O) ?_)))
  rintro _ w10 rD
  refine sH O (dQ O (bK 0 bJ O dG O (bK 3 bU O aF O (gJ aP O (rD).get.2 O (bG O (Z (jU ((rD.f4).vY) aZ O) (Z (iG O O (by omega)) (dQ O (bK 0 bJ O dG O (bK 3 bU O aF O (aO (YA 3 rD aF) ?_)))))))))))
  rintro _ ED rM
  refine sH O (dX O func178 (D6 rM.f4 hEB hl3) ?_)
  rintro u12 w12 ⟨VZ, ZO, vX⟩
  refine dL O (dU O (Az results136 O O ?_))
  simp only [if_neg hGN]
  have hdl : (mZ G N).dropLast = hs.map (fun g => g.2.map eG.says) := by rw [hG]; simp
  have hlast : (mZ G N).getLastD [] = xO.map eG.says := by rw [hG]; simp
  have hX := (vX.f3.right.f6.f6.f5.f5.f5.f6).Vl (h := hs.length) (by omega)
  rw [hdl, hlast]
  rw [Nat.mul_one, List.take_left' (by simp), show (((hs.length + 1 : Nat) : Int) - 1).toNat = hs.length from by omega, show Int.toNat 0 = 0 from rfl] at hX
  have hT : jd (mZ G N) [] = jd (hs.map (fun g => g.2.map eG.says)) [] + xO.length := by rw [hG, Ky, List.length_map]
  have hok2 : YM (hs.map (fun g => g.2.map eG.says)) [] 0 := ⟨fun g hg => hok.1 g (by rw [hG]; exact List.mem_append_left _ hg), by omega, by decide, by decide, fun g hg => hok.2.2.2.2.1 g (by rw [hG]; exact List.mem_append_left _ hg), by simp⟩
  refine ⟨_, _, O, (by assumption), ?_⟩
  have hU := V.xu (gv := xP 1 0 hs.length (.slice (some ⟨bgv, ogv, none⟩) (hs.length + 1) cgv)) (nv := nv) (gs := hs) (now := []) (ed := (jd (mZ G N) [] : Nat) - (xO.length : Int)) (F := Row 189 3 u12 VZ.length (VZ.flatMap eG.enc) • kW VZ • F) hok2 rfl rfl (by omega) (hX.of_eq (by unfold CZ; ac_rfl))
  exact hU.of_eq (by ac_rfl)
end
def AU (op : Int) : Int := if op = 0 then 1 else 0
def aaJ (G : List (List jq)) (N : List jq) (op : Int) : List (List jq) := if op = 1 then mZ G N else G
def aaK (N : List jq) (op : Int) : List jq := if op = 1 then [] else N
def YN (op : Int) : Int := if op = 0 then 0 else op - 1
theorem Ub {es : List eG} {k : Nat} (hk : k < es.length) : (es.take (k + 1)).map eG.says = (es.take k).map eG.says ++ [(es.getD k default).says] := by
  rw [List.take_succ_eq_append_getElem hk, List.map_append, List.getD_eq_getElem?_getD, List.getElem?_eq_getElem hk]
  rfl
section
variable {w0 w : World} {F : HP} {p : Nat} {G : List (List jq)} {N : List jq} {op : Int} {gv nv v : Value} {gs : List (Value × List eG)} {now es : List eG} {a : Int} {d z : Value} {dl il : List Int}
theorem zJ (H : V w0 w (jl p G N op • F)) : ig prog 139 #[.pointer (some ⟨p, 0, none⟩)] w fun v w' => v = .int .i64 (AU op) ∧ V w0 w' (jl p (aaJ G N op) (aaK N op) (YN op) • F) := by
 unfold AU aaJ aaK YN
 refine iK func139 ntmps139 ?_
 refine jy O (aK (bM O (dX O func158 (nM H) ?_)))
 rintro _ _ ⟨rfl, rfl⟩
 refine iy (oD (fG (aK (aK ?_))))
 obtain ⟨BX, zF, oJ, nH, lN, wK, uz, Ht, Hu, NY, rP⟩ := (H).y8
 have hop := lN.2.2.1
 have hop2 := lN.2.2.2.1
 refine aA (nZ O O (bK 0 bJ O dG O (bK 2 bU O aF O (gJ aP O (rP).get.2 O (Z (cZ O O) (gQ O (fun h1 => ?_) (fun h1 => ?_)))))))
 ·(try simp only [aC] at h1)
  have h0 : op = 0 := by omega
  refine jB O (ay (dF results139 O ?_))
  have Qk := rP.f5.f5.f5.f5.f5
  have PN := V.oI lN wK uz rfl Qk
  subst h0
  exact ⟨O, PN⟩
 ·(try simp only [aC] at h1)
  have h0 : ¬ op = 0 := by omega
  refine fG (aK (bM O (dQ O (bK 0 bJ O dG O (bK 2 bU O aF O (gJ aP O (rP).get.2 O (Z (iG O O (by omega)) (dQ O (bK 0 bJ O dG O (bK 2 bU O aF O (aO (YA 2 rP aF) ?_)))))))))))
  rintro _ w6 H6
  refine sH O (dQ O (bK 0 bJ O dG O (bK 2 bU O aF O (gJ aP O (H6).get.2 O (Z (cZ O O) (gQ O (fun h2 => ?_) (fun h2 => ?_)))))))
  ·(try simp only [aC] at h2)
   have h1 : op = 1 := by omega
   have VX := H6.f5.f5.f5.f5.f5
   have VY := V.oI (op := op - 1) ⟨lN.1, lN.2.1, by omega, by omega, lN.2.2.2.2⟩ wK uz rfl VX
   refine aA (bG O (dX O func177 (AP VY) ?_))
   rintro _ w9 H9
   refine iy (jB O (dF results139 O ?_))
   subst h1
   exact ⟨O, H9⟩
  ·(try simp only [aC] at h2)
   have h1 : ¬ op = 1 := by omega
   refine fG (jB O (dF results139 O ?_))
   rw [if_neg h0, if_neg h1, if_neg h1, if_neg h0]
   exact ⟨O, V.oI ⟨lN.1, lN.2.1, by omega, by omega, lN.2.2.2.2⟩ wK uz O H6.f5.f5.f5.f5.f5⟩
theorem Ic (H : V w0 w F) (hv : TI w0 F 3 v es.length (es.flatMap eG.enc)) (he : ∀ k, k < es.length → jE w0 F .i32 (es.getD k default).d (es.getD k default).dl ∧ jE w0 F .i32 (es.getD k default).i (es.getD k default).il)
  (hB : ∀ k, k < es.length → EB (es.getD k default).says) (hL : es.length ≤ 16384) :
  ig prog 173 #[v] w fun v' w' => ∃ fs : List eG, fs.map eG.says = es.map eG.says ∧ V w0 w' (Row 189 3 v' fs.length (fs.flatMap eG.enc) • kW fs • F) := by
 refine iK func173 ntmps173 ?_
 refine jy O (jy O (aK (bM O (Z (jU (hv _ (H)) aZ O) (bG O (iy (aV ?_)))))))
 refine dJ [(6, _), (7, _)] (fun (⟨k, u⟩ : Nat × Value) => [(3, u), (8, .int .i64 (k : Int))]) (fun (⟨k, u⟩ : Nat × Value) W => k ≤ es.length ∧ ∃ fs : List eG, fs.map eG.says = (es.take k).map eG.says ∧ V w0 W (Row 189 3 u fs.length (fs.flatMap eG.enc) • kW fs • F)) (fun (⟨k, u⟩ : Nat × Value) => es.length - k) ((0, .slice none 0 0)) mW mW ⟨by omega, [], O, (H.tu none).edL⟩ ?_
 rintro ⟨k, u⟩ w1 ⟨hk, fs, hfs, HL⟩
 dsimp only [List.cons_append, List.nil_append]
 refine gW (Z (fF O O) (qW (bI O (fun h1 => ?_) (fun h1 => ?_))))
 ·(try simp only [aC] at h1)
  refine fG (aK (aV (gW ?_)))
  obtain ⟨bv, ov, cv, ev⟩ := Rd.nJ (hv _ (HL.right.right)) (by omega)
  cases ev
  refine Z (dh aZ fA O O (by omega)) (Z (rX (ys := [_, _, _]) (hv _ (HL.right.right)) (by omega) dK O fA O (uy eG.DY (by omega) default) O) ?_)
  have hkl : k < es.length := by omega
  obtain ⟨f1, f2⟩ := he k hkl
  obtain ⟨hb1, hb2⟩ := hB k hkl
  have hb1 : (es.getD k default).dl.length ≤ 35184372087808 := hb1
  have hb2 : (es.getD k default).il.length ≤ 35184372087808 := hb2
  have hfl : fs.length = k := by have h9 := congrArg List.length hfs; simp at h9; omega
  refine jL (gK (l := [_, _, _]) HL iO O) ?_
  rintro _ w2 ⟨b2, rfl, H2⟩
  refine aO (dw 0 (l' := [_, _, _]) (us := [_, _, _]) H2 fA O O O (aH (bf (by first | rfl | exact Rd.one (f1 _ (H2.right.right.right))) (bf (by first | rfl | exact Rd.one (f2 _ (H2.right.right.right))) bP))) O O) ?_
  rintro _ w3 H3
  refine iy (aA (bG O (Z (fP dK O fA O O (H3).get.2) (dX O func179 (wJ H3 (fun W HW => f1 _ (HW.right.right.right)) (fun W HW => f2 _ (HW.right.right.right)) (by omega) (by omega)) ?_))))
  rintro _ w4 ⟨d4, s4, rfl, H4⟩
  refine jL (wP H4 aZ fA iO O O O (by decide) (by decide)) ?_
  rintro l5 w5 H5
  refine jL (gZ H5.f5 aZ AO O O O ((H5).aY) (aH (bf (by first | rfl | exact Rd.one ((H5.f2).aY)) (bf (by first | rfl | exact Rd.one ((H5.f3).aY)) bP))) (by omega) (by omega)) ?_
  rintro l6 w6 H6
  have Hd7 := H6.f2.right
  refine dL O (bD (aG (aW (aA (Z (dP O O (by omega)) (bG O (bD ?_)))))))
  refine bZ ((k + 1, l6)) ?_ ?_ ?_ ?_
  ·exact mW
  ·exact mW
  ·(try dsimp only)
   first | done | exact ⟨by omega, _, by rw [List.map_append, hfs, Ub (by omega)]; rfl, (V.DZ (Hd7.f4.right.f4.f2.f4.f4).pY.swap.pY.swap.f3).edL⟩
  ·(try dsimp only); omega
 ·(try simp only [aC] at h1)
  refine bQ (aB (aB (aU (aW (bM O (dU O (dF results173 O ?_)))))))
  rw [List.take_of_length_le (by omega)] at hfs
  exact ⟨_, hfs, HL.f2.f2⟩
theorem V.qc {es : List eG} (H : V w0 w (kW es • F)) {k : Nat} (hk : k < es.length) : dR w .i32 (es.getD k default).d (es.getD k default).dl ∧ dR w .i32 (es.getD k default).i (es.getD k default).il := let ⟨I, h, hI⟩ := H.rJ; ⟨(h k hk).1.rd hI, (h k hk).2.rd hI⟩
theorem AV (H : V w0 w (Row 189 3 v es.length (es.flatMap eG.enc) • kW es • F)) (hB : ∀ k, k < es.length → EB (es.getD k default).says) (hL : es.length ≤ 16384) :
    ig prog 173 #[v] w fun v' w' => ∃ fs : List eG, fs.map eG.says = es.map eG.says ∧ V w0 w' (Row 189 3 v' fs.length (fs.flatMap eG.enc) • kW fs • Row 189 3 v es.length (es.flatMap eG.enc) • kW es • F) :=
  Ic H (fun W HW => HW.aY) (fun k hk => ⟨fun W HW => (HW.right.qc hk).1, fun W HW => (HW.right.qc hk).2⟩) hB hL
theorem yE (H : V w0 w (Cm v es • F)) (hB : ∀ k, k < es.length → EB (es.getD k default).says) (hL : es.length ≤ 16384) :
    ig prog 173 #[v] w fun v' w' => ∃ fs : List eG, fs.map eG.says = es.map eG.says ∧ V w0 w' (Row 189 3 v' fs.length (fs.flatMap eG.enc) • kW fs • Cm v es • F) :=
  Ic H (fun W HW => HW.vY) (fun k hk => ⟨fun W HW => HW.ach hk, fun W HW => HW.aci hk⟩) hB hL
end
end Go.Proofs.YtpdeedplgmbopaaGreatDoor
end
section
namespace Go.Proofs.YtpdeedplgmbopaaGreatDoor
open Go.RowKit
def afu (G : List (List jq)) (N : List jq) : List jq := (mZ G N).flatten.reverse.map Ib
section
variable {w0 w : World} {F : HP} {p : Nat} {G : List (List jq)} {N : List jq} {op : Int} {gv nv v u : Value} {gs : List (Value × List eG)} {now es fs : List eG} {a : Int} {d z : Value} {dl il : List Int}
theorem V.V3 (H : V w0 w (Cm v es • F)) : ∀ x ∈ es.flatMap eG.enc, x.oneCell' = true :=
  V.AL (es := es) (w0 := w0) (w := w) (F := F) (H.EF (pI (fun I h => h.2) F))
theorem V.Gs (H : V w0 w (oH gs • F)) {k : Nat} {gl : Value} {xO : List eG} (hk : k < gs.length) (hg : gs.getD k default = (gl, xO)) : V w0 w (Cm gl xO • oH gs • F) := by
  have := H.NU hk
  rwa [hg] at this
end
end Go.Proofs.YtpdeedplgmbopaaGreatDoor
end
