import Derived.Test.YtpdeedplgmbopaaGreatDoorZ4
import Derived.Test.YtpdeedplgmbopaaGreatDoorZ9
import Derived.Test.YtpdeedplgmbopaaGreatDoorZ5
import Derived.Test.YtpdeedplgmbopaaGreatDoorZ11
import Derived.Lib.OthersKept
import Derived.Lib.Bytealg
import Derived.Conc.AtomicLaws2
import Derived.Test.YtpdeedplgmbopaaGreatDoorZ3
set_option linter.unusedSimpArgs false
set_option linter.unusedVariables false
/- Texts of mine, joined, their names in short: VM EdA Atom EdB EdC EdMv EdR. -/
section
namespace Go.Proofs.YtpdeedplgmbopaaGreatDoor
open Go.RowKit
open _root_.Go.Proofs.Tryz
structure VM where
  marks : Int → Option Int
  fk : Int
  fc : Int
  name : ByteArray
  keys : List Int
  n : Int
  typed : List Int
  frm : Int
def wH (n : ByteArray) : Prop := n.toList = zZ.toList ∨ n.toList = VE.toList ∨ n.toList = VF.toList ∨ n.toList = VH.toList
def oW (n : ByteArray) : Prop := n.toList = VB.toList ∨ n.toList = zY.toList ∨ n.toList = VD.toList ∨ n.toList = xu.toList ∨ n.toList = VG.toList
instance (n : ByteArray) : Decidable (wH n) := by unfold wH; infer_instance
instance (n : ByteArray) : Decidable (oW n) := by unfold oW; infer_instance
def VJ (M : VM) : Prop := M.keys.length * 4 ≤ 140737488355328 ∧ M.typed.length ≤ 1024 ∧ (M.name.toList = [] ∨ ((wH M.name ∨ oW M.name) ∧ nJ M.name M.keys = 0 ∧ 1 ≤ M.n ∧ M.n ≤ 1000000))
def Ac (m : Int → Option Int) : Int → Option Value := fun k => (m k).map (.int .i64)
def oZ (m : Nat) (M : VM) : HP := rV fun (x : Nat × Value × Value) => fact (VJ M) • dM m (.cells #[.map (some x.1), .int .i32 M.fk, .int .i32 M.fc, .string M.name, x.2.1, .int .i64 M.n, x.2.2, .int .i64 M.frm] 119 (0, 0)) • fJ SI x.1 (Ac M.marks) • mQ .i32 x.2.1 M.keys • mQ .i32 x.2.2 M.typed
def VM.new : VM := ⟨fun _ => none, 0, 0, .empty, [], 0, [], -1⟩
theorem VM.KX : VJ VM.new := ⟨by decide, by decide, .inl (by rw [ByteArray.toList_eq]; rfl)⟩
section
variable {w0 w : World} {F : HP} {m : Nat} {M : VM}
theorem V.vm (H : V w0 w (oZ m M • F)) : ∃ mb kv tv, VJ M ∧ V w0 w (dM m (.cells #[.map (some mb), .int .i32 M.fk, .int .i32 M.fc, .string M.name, kv, .int .i64 M.n, tv, .int .i64 M.frm] 119 (0, 0)) • fJ SI mb (Ac M.marks) • mQ .i32 kv M.keys • mQ .i32 tv M.typed • F) := by
  obtain ⟨⟨mb, kv, tv⟩, H⟩ := H.lQ
  obtain ⟨h, H⟩ := H.flat.fact
  exact ⟨mb, kv, tv, h, H.of_eq (by simp only [bZ])⟩
theorem V.Bz {mb : Nat} {kv tv : Value} (h : VJ M) (H : V w0 w (dM m (.cells #[.map (some mb), .int .i32 M.fk, .int .i32 M.fc, .string M.name, kv, .int .i64 M.n, tv, .int .i64 M.frm] 119 (0, 0)) • fJ SI mb (Ac M.marks) • mQ .i32 kv M.keys • mQ .i32 tv M.typed • F)) : V w0 w (oZ m M • F) :=
  V.iD (mb, kv, tv) (V.deep (V.kE h (H.of_eq (by simp only [bZ]))))
theorem G9 (H : V w0 w F) : V w0 w (mQ .i32 (.slice none 0 0) [] • F) := V.oL (e := 21) (k := .i32) (l := []) (H.iP none)
theorem V.aaq {mb : Nat} {kv : Value} (h : VJ M) (ht : M.typed = []) (H : V w0 w (dM m (.cells #[.map (some mb), .int .i32 M.fk, .int .i32 M.fc, .string M.name, kv, .int .i64 M.n, .slice none 0 0, .int .i64 M.frm] 119 (0, 0)) • fJ SI mb (Ac M.marks) • mQ .i32 kv M.keys • F)) : V w0 w (oZ m M • F) :=
  V.Bz h (by rw [ht]; exact (G9 H).of_eq (by ac_rfl))
theorem Ad (H : V w0 w (oZ m M • F)) : gQ prog 69 #[.pointer (some ⟨m, 0, none⟩)] w fun v w' => v = .bool false ∧ w = w' := by
 refine iC func69 ntmps69 ?_
 refine jk O (aO ?_)
 obtain ⟨Nv, Nw, Ny, wI, wU⟩ := (H).vm
 refine aB (bQ O (Z (iT underlying41 O O) (YW O (fun h1 => ?_))))
 (try simp only [aF] at h1)
 refine bC (bQ O (bC (dL O (bC (bF 0 fH O sizeOf113 O (bC (gq kQ O (wU).get.2 O (bC (Z (SQ kQ O O) (iJ O O (fF O (dG results69 O ?_))))))))))))
 exact ⟨O, O⟩
theorem PZ (H : V w0 w F) : gQ prog 22 #[] w fun v w' => ∃ m, v = .pointer (some ⟨m, 0, none⟩) ∧ V w0 w' (oZ m VM.new • F) := by
  refine OW func22 ntmps22 ?_
  refine jk O (iy (jy (jJ (wC .i32) H) ?_))
  rintro _ w1 ⟨b1, rfl, H1⟩
  refine Z (dW (zl := [.map none, .int .i32 0, .int .i32 0, .string .empty, .slice none 0 0, .int .i64 0, .slice none 0 0, .int .i64 0]) (pl := [(0, 1), (1, 2), (3, 4), (7, 1)]) [_, _, _, _, _, _, _, _] fH zeroValue119 O (fun w => by kernel_rfl) O (.on (.zero (zs := [.int .i32 0, .int .i32 0]) O (.zero (zs := [.string .empty, .slice none 0 0, .int .i64 0, .slice none 0 0]) O (.on .nil)))) O) ?_
  refine jy (iO (l := [_, _, _, _, _, _, _, _]) H1 O O) ?_
  rintro _ w2 ⟨b2, rfl, H2⟩
  refine fF O (dG results22 O ?_)
  exact ⟨_, O, V.Bz VM.KX ((G9 (G9 H2)).of_eq (by ac_rfl))⟩
def VM.at (M : VM) (r : Int) : Int := (M.marks r).getD (-1)
theorem Nz {r : Int} (H : V w0 w (oZ m M • F)) : gQ prog 183 #[.pointer (some ⟨m, 0, none⟩), .int .i32 r] w fun v w' => v = .int .i64 (M.at r) ∧ V w0 w' (oZ m M • F) := by
  refine nH func183 ntmps183 ?_
  refine jk O (aO (bT O (eG O func69 (Ad H) ?_)))
  rintro _ _ ⟨rfl, rfl⟩
  refine iK (pW (fV (aO (aO ?_))))
  obtain ⟨Nv, Nw, Ny, wI, wU⟩ := (H).vm
  refine aB (nG O O (bF 0 fH O sizeOf113 O (gq kQ O (wU).get.2 O (bQ O (Z (zV (wU.f2) kQ bf zeroValue3 O O) (bQ O (uD O O (uD O O (fU O (gB O (bT O (iV O (fun h1 => ?_) (fun h1 => ?_)))))))))))))
  · (try simp only [aF] at h1)
    try (exfalso; first | contradiction | omega)
    all_goals
      obtain ⟨z, hz⟩ := Option.isSome_iff_exists.1 h1
      obtain ⟨a, ha⟩ : ∃ a, M.marks r = some a := by cases hq : M.marks r with | none => (unfold Ac at hz; rw [hq] at hz; cases hz) | some a => exact ⟨a, rfl⟩
      refine bT O (fF O (aG (dG results183 O ?_)))
      have O9 := wU.f4.f4.f4.f4
      have OB := V.Bz (M := M) wI O9
      exact ⟨by unfold VM.at; rw [ha]; first | rfl | (unfold Ac; rw [ha]; rfl), OB⟩
  · (try simp only [aF] at h1)
    try (exfalso; first | contradiction | omega)
    all_goals
      have ha : M.marks r = none := by cases hq : M.marks r with | none => rfl | some a => (have h9 := h1; unfold Ac at h9; rw [hq] at h9; cases h9)
      refine fV (jd O (dG results183 O ?_))
      have U6 := wU.f4.f4.f4.f4
      have U7 := V.Bz (M := M) wI U6
      exact ⟨by unfold VM.at; rw [ha]; first | rfl | (unfold Ac; rw [ha]; rfl), U7⟩
theorem KY (H : V w0 w (oZ m M • F)) : gQ prog 38 #[.pointer (some ⟨m, 0, none⟩)] w fun v w' => ∃ c, v = .pointer (some ⟨c, 0, none⟩) ∧ V w0 w' (oZ c M • oZ m M • F) := by
 refine iC func38 ntmps38 ?_
 refine jk O (aO (bT O (eG O func69 (Ad H) ?_)))
 rintro _ _ ⟨rfl, rfl⟩
 refine iK (pW (fV (aO ?_)))
 obtain ⟨Nv, Nw, Ny, wI, wU⟩ := (H).vm
 have hvk := wI.1
 have hvt := wI.2.1
 refine aB (nG O O (Z (fD fH O sizeOf119 O O (wU).get.2) (jy (fM (l := [_, _, _, _, _, _, _, _]) wU zeroValue119 O) ?_)))
 rintro _ w3 ⟨b3, rfl, H3⟩
 refine aK (bW 0 (l' := [_, _, _, _, _, _, _, _]) (us := [_, _, _, _, _, _, _, _]) H3 sizeOf119 O O O (aA (aA (aA (aA (aX (by first | rfl | exact Rd.one ((H3.f4).jG)) (aA (aX (by first | rfl | exact Rd.one ((H3.f5).jG)) (aA bD)))))))) O O) ?_
 rintro _ w4 H4
 refine Xj (jy (jJ (wC .i32) H4) ?_)
 rintro _ w5 ⟨b5, rfl, H5⟩
 refine bF 0 fH O sizeOf113 O (aK (fE 0 (l' := [_, _, _, _, _, _, _, _]) H5.f2 sizeOf113 O O (by first | rfl | assumption) O O) ?_)
 rintro _ w6 H6
 refine pJ (bT O (dL O (bF 0 fH O sizeOf113 O (gq kQ O (H6.f3).get.2 O (jy (zW H6.f4 kQ O) ?_)))))
 rintro _ w7 ⟨it7, mi, rfl, H7⟩
 refine iK (aZ ?_)
 obtain ⟨R8, hR8, HR8⟩ := V.FN (H7.f2.f3.f3)
 have HX0 := HR8
 rw [← Nk (Ac M.marks)] at HX0
 refine fC [(0, _), (3, _), (17, _)] (fun (⟨S, n⟩ : List Int × Nat) => []) (fun (⟨S, n⟩ : List Int × Nat) W => V w0 W (Bl SI Nv it7 (Ac M.marks) S n • fJ SI b5 (KT (Ac M.marks) S) • dM b3 (.cells #[.map (some b5), .int .i32 M.fk, .int .i32 M.fc, .string M.name, Nw, .int .i64 M.n, Ny, .int .i64 M.frm] 119 (0, 0)) • R8)) (fun (⟨S, n⟩ : List Int × Nat) => n) (([], _)) uF (Sub.nil _) HX0 ?_
 rintro ⟨S, n⟩ w9 HL
 dsimp only [List.cons_append, List.nil_append]
 refine iy (jy (BQ HL O) ?_)
 rintro _ w10 ⟨ox, Sx, mx, rfl, Zb, ql⟩
 refine Z (Vl O) (pJ (bG O (fun h1 => ?_) (fun h1 => ?_)))
 ·(try simp only [aF] at h1)
  try (exfalso; first | contradiction | omega)
  all_goals
   obtain ⟨⟨a, u⟩, rfl⟩ := Option.isSome_iff_exists.1 h1
   obtain ⟨ha, hns, hlt, rfl⟩ := Zb
   refine fV (aZ (iy ?_))
   refine Z (KR (ql) (by assumption) O) ?_
   refine uD O O (uD O O (fU O (gB O (aB (bF 0 fH O sizeOf113 O (gq kQ O (ql.f3).get.2 O (jF O O (aK (tY ql.f2 kQ bf O O O) ?_))))))))
   rintro _ EI rE
   refine bP (aJ ?_)
   have hres := JB (S := S) ha
   refine dH ((S ++ [a], mx)) ?_ ?_ ?_ ?_
   ·exact (Sub.nil _)
   ·exact uF
   ·(try dsimp only)
    first | done | exact (by rw [hres]; exact rE.f3.f2.f3)
   ·(try dsimp only); omega
 ·(try simp only [aF] at h1)
  try (exfalso; first | contradiction | omega)
  all_goals
   obtain rfl := Ee (o := ox) (by simp [h1])
   obtain ⟨rfl, rfl, hall⟩ := Zb
   refine dn (aI ?_)
   have HX := ql.f3.f2.f3
   rw [Nl hall] at HX
   have P5 := HX.f2
   have P6 := P5.Eb
   subst hR8
   refine aI (aY (aW (aO ?_)))
   have Zf := P6.drew
   have wJ := V.kp (Zf.f6.f6.f6.f6.f6.f6)
   refine yj [4, 10] wJ O (jE 0 O wJ O (kJ 1 O wJ O (gU 2 O wJ 3 fH O sizeOf117 O (gU 3 O wJ 1 underlying117 O dN O (jQ 4 O wJ (fun W hW => kC ay O ((Kp.h hW).f4).get.2 O) (jE 6 O wJ O (kJ 7 O wJ O (gU 8 O wJ 3 fH O sizeOf117 O (gU 9 O wJ 3 underlying117 O dN O (jQ 10 O wJ (fun W hW => kC ay O ((Kp.h hW).f4).get.2 O) (oC 5 O (yJ O func71 (pK Zf (fun W HW => (HW.f5).jG) (by omega))) ?_)))))))))))
   rintro u14 Si Aw
   have Dh := V.kp (Aw.f7.f7.f7.f7.f7.f7.f7)
   refine dX Dh (fun W hW => (Kp.h hW).right.f6.f6.f6.f6.f6.f6) ?_
   refine oC 11 O (yJ O func71 (pK Aw (fun W HW => (HW.f7).jG) (by omega))) ?_
   rintro u15 SA yQ
   have uQ := V.kp (yQ.f8.f8.f8.f8.f8.f8.f8.f8)
   refine gV uQ (by kernel_rfl) ?_
   refine gU 12 O uQ 3 fH O sizeOf117 O (gU 13 O uQ 1 underlying117 O dN O ?_)
   refine fQ 14 O (by kernel_rfl) (fE 4 (l' := [_, _, _, _, _, _, _, _]) yQ.f5 dN O O (by first | rfl | exact Rd.one ((yQ.f2).aT)) O O) ?_
   rintro _ w16 yL
   have Dj := V.kp (yL.f8.f8.f8.f8.f8.f8.f8.f8)
   refine gV Dj (by kernel_rfl) ?_
   refine gU 15 O Dj 3 fH O sizeOf117 O (gU 16 O Dj 3 underlying117 O dN O ?_)
   refine fQ 17 O (by kernel_rfl) (fE 6 (l' := [_, _, _, _, _, _, _, _]) yL dN O O (by first | rfl | exact Rd.one ((yL.f2).aT)) O O) ?_
   rintro _ Zc Iu
   have EH := V.kp (Iu.f8.f8.f8.f8.f8.f8.f8.f8)
   refine gV EH (by kernel_rfl) ?_
   refine qR (aW (jd O (dG results38 O ?_)))
   have aar := Iu.f3
   have aas := aar.oL
   have VK := aas.f3
   have P7 := VK.oL
   have VL := P7.f8.f8.f6.f8
   have VN := V.Bz (M := M) wI VL
   exact ⟨_, O, V.Bz wI VN.f2.f3.f5.f5⟩
end
def He (D : List Int) (P : Int → Nat) (k : Int) : Option Addr := if k ∈ D then some ⟨P k, 0, none⟩ else none
theorem Rh (D : List Int) (P : Int → Nat) (k : Int) : (Nc D P k).getD (.pointer none) = .pointer (He D P k) := by unfold Nc He; split <;> rfl
theorem NC {D : List Int} {P : Int → Nat} {k : Int} (h : k ∈ D) : He D P k = some ⟨P k, 0, none⟩ := if_pos h
theorem Tj {D : List Int} {P : Int → Nat} {k : Int} (h : (He D P k).isNone = false) : k ∈ D := by
  unfold He at h
  split at h
  · assumption
  · cases h
theorem Tn {D : List Int} {P : Int → Nat} {k : Int} (h : (He D P k).isNone = true) : k ∉ D := by
  unfold He at h
  split at h
  · cases h
  · assumption
theorem Ri {s : dJ} (h : ¬ s.yx = 0) : s.inn = false ∧ s.yx = 1 := by
  unfold dJ.yx at *
  cases hi : s.inn <;> simp_all
theorem ND {s : dJ} (h : s.yx = 0) : s.inn = true := by
  unfold dJ.yx at h
  cases hi : s.inn <;> simp_all
theorem V.adp {w0 w : World} {A B C F : HP} (H : V w0 w (A • B • C • F)) : V w0 w (A • (B • C) • F) := H.of_eq (by rw [bZ])
section
variable {w0 w : World} {F : HP} {e p : Nat} {s : dJ}
theorem pq (H : V w0 w (gG e s • F)) : gQ prog 65 #[.pointer (some ⟨e, 0, none⟩)] w fun v w' => v = .bool false ∧ w = w' := by
 refine iC func65 ntmps65 ?_
 refine jk O (aO ?_)
 obtain ⟨xO, xP, xQ, xR, xU, xW, xX, xY, uK, sG, sH, sJ, sK, sN, sO, sQ, sS, sU, sV, sW, iw, dI, lg, iL⟩ := (H).Gz
 refine aB (bQ O (Z (iT kH O O) (jL O (fun h1 => ?_) (fun h1 => ?_))))
 ·(try simp only [aF] at h1)
  exfalso; first | contradiction | omega
 ·(try simp only [aF] at h1)
  refine bC (bQ O (bC (dL O (bC (bF 11 ah O sizeOf78 O (bC (gq jO O (iL).get.2 O (bC (Z (iT jO O O) (iJ O O (fF O (dG results65 O ?_))))))))))))
  exact ⟨O, O⟩
theorem uf (H : V w0 w (gG e s • F)) : gQ prog 81 #[.pointer (some ⟨e, 0, none⟩)] w fun v w' => v = .int .i64 s.yx ∧ w = w' := by
 unfold dJ.yx
 refine iC func81 ntmps81 ?_
 refine jk O (aO (aZ (bT O (eG O func65 (pq H) ?_))))
 rintro _ _ ⟨rfl, rfl⟩
 refine gB O (pW (aO ?_))
 obtain ⟨xO, xP, xQ, xR, xU, xW, xX, xY, uK, sG, sH, sJ, sK, sN, sO, sQ, sS, sU, sV, sW, iw, dI, lg, iL⟩ := (H).Gz
 refine aB (nG O O (bF 16 ah O aQ O (gq bM O (iL).get.2 O (Z (lS O) (gB O (bG O (fun h1 => ?_) (fun h1 => ?_)))))))
 ·(try simp only [aF] at h1)
  refine jd O (aS (aG (dG results81 O ?_)))
  exact ⟨by simp [*], O⟩
 ·(try simp only [aF] at h1)
  refine bU (aJ (aW (jd O (dG results81 O ?_))))
  exact ⟨by simp [*], O⟩
theorem NG {x0 x1 x4 x5 x6 x7 x8 x9 x10 x11 x12 uO x14 x15 x16 x17 x18 x19 x20 x21 vI x23 x24 x25 wo x27 x28 x29 x30 x31 x32 wX : Value} {pw pt pm : Nat} {k : Int} {U : Int → List (List iU)} (H : V w0 w (dM e (.cells (x0 :: x1 :: .pointer (some ⟨pw, 0, none⟩) :: .map (some pm) :: x4 :: x5 :: x6 :: x7 :: x8 :: x9 :: x10 :: x11 :: x12 :: uO :: x14 :: x15 :: x16 :: x17 :: x18 :: x19 :: x20 :: x21 :: vI :: x23 :: x24 :: x25 :: wo :: x27 :: x28 :: x29 :: x30 :: x31 :: x32 :: wX :: []).toArray 82 (0, 0)) • dM pw (.cells #[.int .i64 k, .map (some pt)] 122 (0, 0)) • wR pm U • F)) : gQ prog 134 #[.pointer (some ⟨e, 0, none⟩)] w fun v w' => ∃ p, v = .pointer (some ⟨p, 0, none⟩) ∧
  V w0 w' (iQ p (U k) [] 0 • Nh pm U k p • dM e (.cells (x0 :: x1 :: .pointer (some ⟨pw, 0, none⟩) :: .map (some pm) :: x4 :: x5 :: x6 :: x7 :: x8 :: x9 :: x10 :: x11 :: x12 :: uO :: x14 :: x15 :: x16 :: x17 :: x18 :: x19 :: x20 :: x21 :: vI :: x23 :: x24 :: x25 :: wo :: x27 :: x28 :: x29 :: x30 :: x31 :: x32 :: wX :: []).toArray 82 (0, 0)) • dM pw (.cells #[.int .i64 k, .map (some pt)] 122 (0, 0)) • F) := by
 refine iC func134 ntmps134 ?_
 refine jk O (aO ?_)
 obtain ⟨D, P, hD1, hD2, HU⟩ := (H.f3).X0
 have P8 := HU.drew
 have mF := V.kp (P8.f4.f4.f4.f4)
 refine yj [4, 9, 12, 13] mF O (jE 0 O mF O (kJ 1 O mF O (gU 2 O mF 0 ah O aU O (gU 3 O mF 3 aH O sizeOf75 O (jQ 4 O mF (fun W hW => kC kG O ((Kp.h hW).f3).get.2 O) (jE 5 O mF O (kJ 6 O mF O (gU 7 O mF 0 ah O aU O (gU 8 O mF 2 aH O sizeOf74 O (jQ 9 O mF (fun W hW => kC kF O ((Kp.h hW).f3).get.2 O) (kJ 10 O mF O (gU 11 O mF 0 fB O aj O (jQ 12 O mF (fun W hW => kC aN O ((Kp.h hW).f4).get.2 O) (jQ 13 O mF (fun W hW => DY (MW ((Kp.h hW)) kG aN zeroValue184 O O) (Rh D P k)) (jC 14 O mF (fun _ => dQ O) (qR (aW (aO (bT O (Z (iT underlying184 O O) (iV O (fun h1 => ?_) (fun h1 => ?_))))))))))))))))))))))
 ·(try simp only [aF] at h1)
  have hnm := Tn h1
  refine iy (eG O func174 (KE P8) ?_)
  rintro _ w1 ⟨p1, rfl, H1⟩
  refine gB O ?_
  have abW := H1.drew
  have wK := V.kp (abW.f5.f5.f5.f5.f5)
  refine yj [4, 9, 12] wK O (jE 0 O wK O (kJ 1 O wK O (gU 2 O wK 0 ah O aU O (gU 3 O wK 3 aH O sizeOf75 O (jQ 4 O wK (fun W hW => kC kG O ((Kp.h hW).f4).get.2 O) (jE 5 O wK O (kJ 6 O wK O (gU 7 O wK 0 ah O aU O (gU 8 O wK 2 aH O sizeOf74 O (jQ 9 O wK (fun W hW => kC kF O ((Kp.h hW).f4).get.2 O) (kJ 10 O wK O (gU 11 O wK 0 fB O aj O (jQ 12 O wK (fun W hW => kC aN O ((Kp.h hW).f5).get.2 O) (jE 13 O wK O ?_))))))))))))))
  refine fQ 14 O (by kernel_rfl) (tY abW.f2 kG aN O O O) ?_
  rintro _ w2 H2
  have xH := V.kp (H2.f5.f5.f5.f5.f5)
  refine gV xH (by kernel_rfl) ?_
  refine qR (aW (bT O (fF O (dG results134 O ?_))))
  have hu1 : EK (wQ P k p1) U (D ++ [k]) = (EK P U D • iQ p1 [] [] 0) := by
   rw [GH, nS, hD2 _ hnm, AA (P' := P) (U' := U) fun x hx => ⟨tX _ _ (by rintro rfl; exact hnm hx), rfl⟩]
  have HM := V.adp H2.f5.f5.f4.f5.f5
  rw [← hu1, ← Np hnm] at HM
  have HZ := V.Za (k := k) (GI hD1 hnm) (fun k hk => hD2 k fun hm => hk (by simp [hm])) (by simp) HM
  rw [nS] at HZ
  exact ⟨_, O, HZ⟩
 ·(try simp only [aF] at h1)
  have hmem := Tj h1
  rw [NC hmem]
  refine fV (bT O (fF O (dG results134 O ?_)))
  exact ⟨_, O, V.Za hD1 hD2 hmem P8.f4.f4.f4.f4⟩
end
end Go.Proofs.YtpdeedplgmbopaaGreatDoor
end
section
namespace Go.Proofs.YtpdeedplgmbopaaGreatDoor
open Go.RowKit Go.Lib
section
variable {P : Program} {L : List (Nat × Value)} {w0 w : World} {F : HP} {ty : TypeId} {b : Nat} {v d : Int} {t : TypeId}
theorem VO {T : Value → World → Prop} {f : FuncId} {args : List Operand} {ts : Array TypeId} {vs : List Value} {fn : Func} {e : Array Value → Sem Value} {v : Value} {w' : World} (ha : DV L args = some vs)
    (hf : P.funcs[f]? = some fn) (hname : (fn.name == "runtime.NumGoroutine") = false) (hb : fn.body.isNone = true) (hn : Extern.findNext fn = none) (he : Extern.find fn = some e) (hr : (e vs.toArray).run P w = .ok v w') (ht : T v w') :
    uw P L (.call ⟨.value (.func f), args.toArray, ts⟩) ty w T := vS (v := v) (w' := w') (fun ρ hρ _ _ _ _ => by
  have hg : ρ (.func f) = .func (.func f) #[] #[] := hρ _ _ rfl
  have hc := run_callFunc_extern hf hname hb hn he vs.toArray w
  rw [hr] at hc
  simp [execOp, resolve, invoke, ZC hρ _ _ ha, hg, Deferred.ofValue]
  exact hc) ht
theorem P9 (hc : w.cell? ⟨b, 0, none⟩ = some (.int .i64 v)) : (Extern.Atomic.loadT (.int .i64) #[.pointer (some ⟨b, 0, none⟩)]).run P w = .ok (.int .i64 v) w := by
  change Sem.run P (do Extern.Atomic.read (.int .i64) (← asAddr (.pointer (some ⟨b, 0, none⟩)))) w = _
  simp [Extern.Atomic.read, asAddr, hc, Result.andThen]
theorem Yb {f : FuncId} {args : List Operand} {ts : Array TypeId} {fn : Func} (H : V w0 w (dM b (.cells #[.int .i64 v] t (0, 0)) • F)) (ha : DV L args = some [.pointer (some ⟨b, 0, none⟩), .int .i64 d])
    (hf : P.funcs[f]? = some fn) (hname : (fn.name == "runtime.NumGoroutine") = false) (hb : fn.body.isNone = true) (hn : Extern.findNext fn = none) (he : Extern.find fn = some (Extern.Atomic.update (Op.intArith .add) .i64 true)) :
    uw P L (.call ⟨.value (.func f), args.toArray, ts⟩) ty w fun u w' => u = .int .i64 (IntKind.i64.wrap (v + d)) ∧ V w0 w' (dM b (.cells #[.int .i64 (IntKind.i64.wrap (v + d))] t (0, 0)) • F) :=
  VO ha hf hname hb hn he (Conc.run_add_entry (ji H.get.2 rfl) (zD H.get.2)) ⟨rfl, H.setCell (i := 0) _⟩
theorem VP {f : FuncId} {args : List Operand} {ts : Array TypeId} {fn : Func} (H : V w0 w (dM b (.cells #[.int .i64 v] t (0, 0)) • F)) (ha : DV L args = some [.pointer (some ⟨b, 0, none⟩)])
    (hf : P.funcs[f]? = some fn) (hname : (fn.name == "runtime.NumGoroutine") = false) (hb : fn.body.isNone = true) (hn : Extern.findNext fn = none) (he : Extern.find fn = some (Extern.Atomic.loadT (.int .i64))) :
    uw P L (.call ⟨.value (.func f), args.toArray, ts⟩) ty w fun u w' => u = .int .i64 v ∧ w = w' :=
  VO ha hf hname hb hn he (P9 (ji H.get.2 rfl)) ⟨rfl, rfl⟩
theorem Dx (H : V w0 w (dM b (.cells #[.int .i64 v] t (0, 0)) • F)) : gQ Tryz.prog 83 #[.pointer (some ⟨b, 0, none⟩), .int .i64 d] w fun u w' => u = .int .i64 (IntKind.i64.wrap (v + d)) ∧ V w0 w' (dM b (.cells #[.int .i64 (IntKind.i64.wrap (v + d))] t (0, 0)) • F) := by
  refine nH Tryz.func83 Tryz.ntmps83 ?_
  refine jk O (bT O (dL O (bF 0 Tryz.underlying161 O Tryz.sizeOf2 O (bQ O (jy (Yb H O Tryz.func133 O O (by kernel_rfl) (by kernel_rfl)) ?_)))))
  rintro _ w1 ⟨rfl, H1⟩
  refine fF O (dG Tryz.results83 O ?_)
  exact ⟨O, H1⟩
theorem ng (H : V w0 w (dM b (.cells #[.int .i64 v] t (0, 0)) • F)) : gQ Tryz.prog 68 #[.pointer (some ⟨b, 0, none⟩)] w fun u w' => u = .int .i64 v ∧ w = w' := by
  refine iC Tryz.func68 Tryz.ntmps68 ?_
  refine jk O (bT O (dL O (bF 0 Tryz.underlying161 O Tryz.sizeOf2 O (jy (VP H O Tryz.func121 O O (by kernel_rfl) (by kernel_rfl)) ?_))))
  rintro _ _ ⟨rfl, rfl⟩
  refine fF O (dG Tryz.results68 O ?_)
  exact ⟨O, O⟩
end
end Go.Proofs.YtpdeedplgmbopaaGreatDoor
end
section
namespace Go.Proofs.YtpdeedplgmbopaaGreatDoor
open Go.RowKit
open _root_.Go.Proofs.Tryz
section
variable {w0 w : World} {F : HP} {e p h pr : Nat} {s : dJ} {hl : List pO} {base most m : Int} {v : Value} {l : List Int}
theorem V.ug {b : Nat} (H : V w0 w (fJ qI b (fun _ => none) • F)) : V w0 w (wR b (fun _ => []) • F) :=
  V.AB (D := []) (P := fun _ => 0) List.nodup_nil (fun _ _ => rfl) (by rw [Q7]; exact H.of_eq (by show _ = (_ • emp • _); rw [YtpdeedplgmbopaaGreatDoor.nI]))
set_option maxHeartbeats 1000000 in
theorem BA {x0 x2 x3 x5 x6 x7 x8 x9 x10 x11 x12 uO x14 x15 x16 x17 x18 x19 x20 x21 vI x23 x24 x25 wo x27 x28 x29 x30 x31 x32 wX : Value} {E : List (List Int)} {a : Nat} (H : V w0 w (dM e (.cells (x0 :: .pointer (some ⟨pr, 0, none⟩) :: x2 :: x3 :: .int .i64 m :: x5 :: x6 :: x7 :: x8 :: x9 :: x10 :: x11 :: x12 :: uO :: x14 :: x15 :: x16 :: x17 :: x18 :: x19 :: x20 :: x21 :: vI :: x23 :: x24 :: x25 :: wo :: x27 :: x28 :: x29 :: x30 :: x31 :: x32 :: wX :: []).toArray 82 (0, 0)) • gJ h hl base most • F)) (hr : jM w0 F .i32 v l) (hshort : l.length ≤ 1024) :
  gQ prog 111 #[.pointer (some ⟨e, 0, none⟩), .pointer (some ⟨h, 0, none⟩), v] w fun _ w' => ∃ pb pw pt pm ph, V w0 w' (dM e (.cells (.pointer (some ⟨pb, 0, none⟩) :: .pointer (some ⟨pr, 0, none⟩) :: .pointer (some ⟨pw, 0, none⟩) :: .map (some pm) :: .int .i64 m :: .bool false :: .int .i64 0 :: .int .i64 0 :: .int .i64 0 :: .int .i64 0 :: .bool false :: .pointer (some ⟨ph, 0, none⟩) :: x12 :: .bool false :: .bool false :: .int .i64 (-1) :: x16 :: x17 :: x18 :: x19 :: x20 :: x21 :: vI :: x23 :: x24 :: x25 :: wo :: x27 :: x28 :: x29 :: x30 :: x31 :: x32 :: wX :: []).toArray 82 (0, 0)) •
   jg pb l l.length (-1) • dM pw (.cells #[.int .i64 hl.length, .map (some pt)] 122 (0, 0)) • fJ qI pt (fun _ => none) • wR pm (fun _ => []) • gJ ph hl base most • gJ h hl base most • F) := by
 refine FY func111 ntmps111 ?_
 refine bT O (eG O func151 (Me H (fun W HW => hr _ (HW.right.right)) hshort) ?_)
 rintro _ w1 ⟨p1, rfl, H1⟩
 refine bQ O (uD O O (uD O O (fU O (gB O (bT O (bQ O (eG O func109 (rF H1.f3) ?_)))))))
 rintro _ w2 ⟨q2, rfl, H2⟩
 refine dL O (bF 11 ah O sizeOf78 O (aK (eP 11 H2.f4 sizeOf78) ?_))
 rintro _ w3 H3
 refine pJ ?_
 have Yc := H3.drew
 have xw := V.kp (Yc.f3.right.f3.f3.f3)
 refine yj [6, 17] xw O (jE 0 O xw O (jE 1 O xw O (jE 2 O xw O (kJ 3 O xw O (gU 4 O xw 0 ah O aU O (gU 5 O xw 1 aH O sizeOf73 O (jQ 6 O xw (fun W hW => kC tH O ((Kp.h hW)).get.2 O) (jE 7 O xw O (jE 13 O xw O (kJ 14 O xw O (gU 15 O xw 0 ah O aU O (gU 16 O xw 4 aH O aj O (jQ 17 O xw (fun W hW => kC aN O ((Kp.h hW)).get.2 O) ?_)))))))))))))
 refine Uo (i := 8) (j := 9) (k := 12) (by kernel_rfl) ?_ ?_ ?_
 ·skip
  refine jP 8 O (by kernel_rfl) (uz (vV O func117 O O) (og Yc.f3)) (mg O) ?_
  rintro _ w4 ⟨rfl, H4⟩
  have xG := V.kp (H4.f4.f4.f4.f4)
  refine dX xG (fun W hW => (Kp.h hW).right.f3.f3.f3) ?_
  refine xC (i := 9) (j := 12) (by kernel_rfl) ?_ ?_
  ·skip
   refine jP 9 O (by kernel_rfl) (jJ (wC .i64) H4) (mg O) ?_
   rintro _ w5 ⟨b5, rfl, H5⟩
   have BM := V.kp (H5.f5.f5.f5.f5.f5)
   refine dX BM (fun W hW => (Kp.h hW).right.f4.f4.f4.f4) ?_
   refine jC 10 O BM (fun _ => dW (zl := [.int .i64 0, .map none]) (pl := [(0, 1), (1, 1)]) [_, _] fB mZ O (fun w => by kernel_rfl) O (.on (.on .nil)) O) ?_
   refine xC (i := 11) (j := 12) (by kernel_rfl) ?_ ?_
   ·skip
    refine jP 11 O (by kernel_rfl) (iO (l := [_, _]) H5 O O) (mg O) ?_
    rintro _ w6 ⟨b6, rfl, H6⟩
    have IQ := V.kp (H6.f6.f6.f6.f6.f6.f6)
    refine dX IQ (fun W hW => (Kp.h hW).right.f5.f5.f5.f5.f5) ?_
    refine oC 12 O (jJ (wC .i64) H6) ?_
    rintro _ w7 ⟨b7, rfl, H7⟩
    have II := V.kp (H7.f7.f7.f7.f7.f7.f7.f7)
    refine dX II (fun W hW => (Kp.h hW).right.f6.f6.f6.f6.f6.f6) ?_
    refine jC 18 O II (fun _ => dW (zl := [.pointer none, .pointer none, .pointer none, .map none, .int .i64 0, .bool false, .int .i64 0, .int .i64 0, .int .i64 0, .int .i64 0, .bool false]) (pl := [(0, 1), (1, 1), (2, 1), (3, 1), (4, 1), (5, 1), (6, 1), (7, 1), (8, 1), (9, 1), (10, 1)]) [_, _, _, _, _, _, _, _, _, _, _] aH lI O (fun w => by kernel_rfl) O (.on (.on (.on (.on (.on (.zero (zs := [.bool false]) O (.zero (zs := [.int .i64 0]) O (.zero (zs := [.int .i64 0]) O (.zero (zs := [.int .i64 0]) O (.zero (zs := [.int .i64 0]) O (.zero (zs := [.bool false]) O .nil))))))))))) O) ?_
    refine kJ 19 O II O (gU 20 O II 0 ah O aU O ?_)
    refine fQ 21 O (by kernel_rfl) (bW 0 (l' := [_, _, _, _, _, _, _, _, _, _, _, _, _, _, _, _, _, _, _, _, _, _, _, _, _, _, _, _, _, _, _, _, _, _]) (us := [_, _, _, _, _, _, _, _, _, _, _]) H7.f5 aU O O O (aA (aA (aA (aA (aA (aA (aA (aA (aA (aA (aA bD))))))))))) O O) ?_
    rintro _ w8 H8
    have Ph := V.kp (H8.f7.f7.f7.f7.f7.f7.f7)
    refine gV Ph (by kernel_rfl) ?_
    refine qR (aW (aB (jF O O (nG O O (bF 13 ah O aQ O (aK (eP 13 H8 aQ) ?_))))))
    rintro _ w9 H9
    refine dL O (bF 14 ah O aQ O (aK (eP 14 H9 aQ) ?_))
    rintro _ w10 ql
    refine dL O (bF 15 ah O aj O (aK (eP 15 ql aj) ?_))
    rintro _ EI rE
    refine bP (lX (.inr O) results111 ?_)
    have P5 := rE.f2
    have P6 := P5.ug
    exact ⟨_, _, _, _, _, P6.f5.f6.f3.f6.f6.f7.f7⟩
   ·skip
    refine jP 12 O (by kernel_rfl) (jJ (wC .i64) H5) (mg O) ?_
    rintro _ Si ⟨b14, rfl, Aw⟩
    have Dh := V.kp (Aw.f6.f6.f6.f6.f6.f6)
    refine dX Dh (fun W hW => (Kp.h hW).right.f5.f5.f5.f5.f5) ?_
    refine oC 11 O (iO (l := [_, _]) Aw O O) ?_
    rintro _ SA ⟨b15, rfl, yQ⟩
    have uQ := V.kp (yQ.f7.f7.f7.f7.f7.f7.f7)
    refine dX uQ (fun W hW => (Kp.h hW).right.f6.f6.f6.f6.f6.f6) ?_
    refine jC 18 O uQ (fun _ => dW (zl := [.pointer none, .pointer none, .pointer none, .map none, .int .i64 0, .bool false, .int .i64 0, .int .i64 0, .int .i64 0, .int .i64 0, .bool false]) (pl := [(0, 1), (1, 1), (2, 1), (3, 1), (4, 1), (5, 1), (6, 1), (7, 1), (8, 1), (9, 1), (10, 1)]) [_, _, _, _, _, _, _, _, _, _, _] aH lI O (fun w => by kernel_rfl) O (.on (.on (.on (.on (.on (.zero (zs := [.bool false]) O (.zero (zs := [.int .i64 0]) O (.zero (zs := [.int .i64 0]) O (.zero (zs := [.int .i64 0]) O (.zero (zs := [.int .i64 0]) O (.zero (zs := [.bool false]) O .nil))))))))))) O) ?_
    refine kJ 19 O uQ O (gU 20 O uQ 0 ah O aU O ?_)
    refine fQ 21 O (by kernel_rfl) (bW 0 (l' := [_, _, _, _, _, _, _, _, _, _, _, _, _, _, _, _, _, _, _, _, _, _, _, _, _, _, _, _, _, _, _, _, _, _]) (us := [_, _, _, _, _, _, _, _, _, _, _]) yQ.f5 aU O O O (aA (aA (aA (aA (aA (aA (aA (aA (aA (aA (aA bD))))))))))) O O) ?_
    rintro _ w16 yL
    have Dj := V.kp (yL.f7.f7.f7.f7.f7.f7.f7)
    refine gV Dj (by kernel_rfl) ?_
    refine qR (aW (aB (jF O O (nG O O (bF 13 ah O aQ O (aK (eP 13 yL aQ) ?_))))))
    rintro _ Zc Iu
    refine dL O (bF 14 ah O aQ O (aK (eP 14 Iu aQ) ?_))
    rintro _ XG CW
    refine dL O (bF 15 ah O aj O (aK (eP 15 CW aj) ?_))
    rintro _ w19 Ec
    refine bP (lX (.inr O) results111 ?_)
    have VK := Ec.f3
    have P7 := VK.ug
    exact ⟨_, _, _, _, _, P7.f5.f6.f3.f6.f6.f7.f7⟩
  ·skip
   refine jP 12 O (by kernel_rfl) (jJ (wC .i64) H4) (mg O) ?_
   rintro _ w22 ⟨b22, rfl, O4⟩
   have Na := V.kp (O4.f5.f5.f5.f5.f5)
   refine dX Na (fun W hW => (Kp.h hW).right.f4.f4.f4.f4) ?_
   refine oC 9 O (jJ (wC .i64) O4) ?_
   rintro _ w23 ⟨b23, rfl, IL⟩
   have JA := V.kp (IL.f6.f6.f6.f6.f6.f6)
   refine dX JA (fun W hW => (Kp.h hW).right.f5.f5.f5.f5.f5) ?_
   refine jC 10 O JA (fun _ => dW (zl := [.int .i64 0, .map none]) (pl := [(0, 1), (1, 1)]) [_, _] fB mZ O (fun w => by kernel_rfl) O (.on (.on .nil)) O) ?_
   refine oC 11 O (iO (l := [_, _]) IL O O) ?_
   rintro _ w24 ⟨b24, rfl, Xk⟩
   have Hf := V.kp (Xk.f7.f7.f7.f7.f7.f7.f7)
   refine dX Hf (fun W hW => (Kp.h hW).right.f6.f6.f6.f6.f6.f6) ?_
   refine jC 18 O Hf (fun _ => dW (zl := [.pointer none, .pointer none, .pointer none, .map none, .int .i64 0, .bool false, .int .i64 0, .int .i64 0, .int .i64 0, .int .i64 0, .bool false]) (pl := [(0, 1), (1, 1), (2, 1), (3, 1), (4, 1), (5, 1), (6, 1), (7, 1), (8, 1), (9, 1), (10, 1)]) [_, _, _, _, _, _, _, _, _, _, _] aH lI O (fun w => by kernel_rfl) O (.on (.on (.on (.on (.on (.zero (zs := [.bool false]) O (.zero (zs := [.int .i64 0]) O (.zero (zs := [.int .i64 0]) O (.zero (zs := [.int .i64 0]) O (.zero (zs := [.int .i64 0]) O (.zero (zs := [.bool false]) O .nil))))))))))) O) ?_
   refine kJ 19 O Hf O (gU 20 O Hf 0 ah O aU O ?_)
   refine fQ 21 O (by kernel_rfl) (bW 0 (l' := [_, _, _, _, _, _, _, _, _, _, _, _, _, _, _, _, _, _, _, _, _, _, _, _, _, _, _, _, _, _, _, _, _, _]) (us := [_, _, _, _, _, _, _, _, _, _, _]) Xk.f5 aU O O O (aA (aA (aA (aA (aA (aA (aA (aA (aA (aA (aA bD))))))))))) O O) ?_
   rintro _ w25 Uh
   have VQ := V.kp (Uh.f7.f7.f7.f7.f7.f7.f7)
   refine gV VQ (by kernel_rfl) ?_
   refine qR (aW (aB (jF O O (nG O O (bF 13 ah O aQ O (aK (eP 13 Uh aQ) ?_))))))
   rintro _ w26 VR
   refine dL O (bF 14 ah O aQ O (aK (eP 14 VR aQ) ?_))
   rintro _ w27 NH
   refine dL O (bF 15 ah O aj O (aK (eP 15 NH aj) ?_))
   rintro _ w28 H28
   refine bP (lX (.inr O) results111 ?_)
   have aat := H28.f4
   have aau := aat.ug
   exact ⟨_, _, _, _, _, aau.f5.f6.f3.f6.f6.f7.f7⟩
 ·skip
  refine jP 9 O (by kernel_rfl) (jJ (wC .i64) Yc) (mg O) ?_
  rintro _ w31 ⟨b31, rfl, SN⟩
  have VT := V.kp (SN.f4.right.f4.f4.f4.f4)
  refine dX VT (fun W hW => (Kp.h hW).right.f3.f3.f3) ?_
  refine xC (i := 8) (j := 12) (by kernel_rfl) ?_ ?_
  ·skip
   refine jP 8 O (by kernel_rfl) (uz (vV O func117 O O) (og SN.f4)) (mg O) ?_
   rintro _ w32 ⟨rfl, NI⟩
   have Rj := V.kp (NI.f5.f5.f5.f5.f5)
   refine dX Rj (fun W hW => (Kp.h hW).right.f4.f4.f4.f4) ?_
   refine jC 10 O Rj (fun _ => dW (zl := [.int .i64 0, .map none]) (pl := [(0, 1), (1, 1)]) [_, _] fB mZ O (fun w => by kernel_rfl) O (.on (.on .nil)) O) ?_
   refine xC (i := 11) (j := 12) (by kernel_rfl) ?_ ?_
   ·skip
    refine jP 11 O (by kernel_rfl) (iO (l := [_, _]) NI O O) (mg O) ?_
    rintro _ w33 ⟨b33, rfl, Xl⟩
    have Rk := V.kp (Xl.f6.f6.f6.f6.f6.f6)
    refine dX Rk (fun W hW => (Kp.h hW).right.f5.f5.f5.f5.f5) ?_
    refine oC 12 O (jJ (wC .i64) Xl) ?_
    rintro _ w34 ⟨b34, rfl, VU⟩
    have JI := V.kp (VU.f7.f7.f7.f7.f7.f7.f7)
    refine dX JI (fun W hW => (Kp.h hW).right.f6.f6.f6.f6.f6.f6) ?_
    refine jC 18 O JI (fun _ => dW (zl := [.pointer none, .pointer none, .pointer none, .map none, .int .i64 0, .bool false, .int .i64 0, .int .i64 0, .int .i64 0, .int .i64 0, .bool false]) (pl := [(0, 1), (1, 1), (2, 1), (3, 1), (4, 1), (5, 1), (6, 1), (7, 1), (8, 1), (9, 1), (10, 1)]) [_, _, _, _, _, _, _, _, _, _, _] aH lI O (fun w => by kernel_rfl) O (.on (.on (.on (.on (.on (.zero (zs := [.bool false]) O (.zero (zs := [.int .i64 0]) O (.zero (zs := [.int .i64 0]) O (.zero (zs := [.int .i64 0]) O (.zero (zs := [.int .i64 0]) O (.zero (zs := [.bool false]) O .nil))))))))))) O) ?_
    refine kJ 19 O JI O (gU 20 O JI 0 ah O aU O ?_)
    refine fQ 21 O (by kernel_rfl) (bW 0 (l' := [_, _, _, _, _, _, _, _, _, _, _, _, _, _, _, _, _, _, _, _, _, _, _, _, _, _, _, _, _, _, _, _, _, _]) (us := [_, _, _, _, _, _, _, _, _, _, _]) VU.f5 aU O O O (aA (aA (aA (aA (aA (aA (aA (aA (aA (aA (aA bD))))))))))) O O) ?_
    rintro _ w35 H35
    have VW := V.kp (H35.f7.f7.f7.f7.f7.f7.f7)
    refine gV VW (by kernel_rfl) ?_
    refine qR (aW (aB (jF O O (nG O O (bF 13 ah O aQ O (aK (eP 13 H35 aQ) ?_))))))
    rintro _ w36 H36
    refine dL O (bF 14 ah O aQ O (aK (eP 14 H36 aQ) ?_))
    rintro _ w37 H37
    refine dL O (bF 15 ah O aj O (aK (eP 15 H37 aj) ?_))
    rintro _ w38 Qa
    refine bP (lX (.inr O) results111 ?_)
    have adq := Qa.f2
    have adr := adq.ug
    exact ⟨_, _, _, _, _, adr.f4.f6.f3.f6.f6.f7.f7⟩
   ·skip
    refine jP 12 O (by kernel_rfl) (jJ (wC .i64) NI) (mg O) ?_
    rintro _ w41 ⟨b41, rfl, Yd⟩
    have VX := V.kp (Yd.f6.f6.f6.f6.f6.f6)
    refine dX VX (fun W hW => (Kp.h hW).right.f5.f5.f5.f5.f5) ?_
    refine oC 11 O (iO (l := [_, _]) Yd O O) ?_
    rintro _ w42 ⟨b42, rfl, H42⟩
    have JJ := V.kp (H42.f7.f7.f7.f7.f7.f7.f7)
    refine dX JJ (fun W hW => (Kp.h hW).right.f6.f6.f6.f6.f6.f6) ?_
    refine jC 18 O JJ (fun _ => dW (zl := [.pointer none, .pointer none, .pointer none, .map none, .int .i64 0, .bool false, .int .i64 0, .int .i64 0, .int .i64 0, .int .i64 0, .bool false]) (pl := [(0, 1), (1, 1), (2, 1), (3, 1), (4, 1), (5, 1), (6, 1), (7, 1), (8, 1), (9, 1), (10, 1)]) [_, _, _, _, _, _, _, _, _, _, _] aH lI O (fun w => by kernel_rfl) O (.on (.on (.on (.on (.on (.zero (zs := [.bool false]) O (.zero (zs := [.int .i64 0]) O (.zero (zs := [.int .i64 0]) O (.zero (zs := [.int .i64 0]) O (.zero (zs := [.int .i64 0]) O (.zero (zs := [.bool false]) O .nil))))))))))) O) ?_
    refine kJ 19 O JJ O (gU 20 O JJ 0 ah O aU O ?_)
    refine fQ 21 O (by kernel_rfl) (bW 0 (l' := [_, _, _, _, _, _, _, _, _, _, _, _, _, _, _, _, _, _, _, _, _, _, _, _, _, _, _, _, _, _, _, _, _, _]) (us := [_, _, _, _, _, _, _, _, _, _, _]) H42.f5 aU O O O (aA (aA (aA (aA (aA (aA (aA (aA (aA (aA (aA bD))))))))))) O O) ?_
    rintro _ w43 H43
    have VY := V.kp (H43.f7.f7.f7.f7.f7.f7.f7)
    refine gV VY (by kernel_rfl) ?_
    refine qR (aW (aB (jF O O (nG O O (bF 13 ah O aQ O (aK (eP 13 H43 aQ) ?_))))))
    rintro _ w44 Zg
    refine dL O (bF 14 ah O aQ O (aK (eP 14 Zg aQ) ?_))
    rintro _ w45 OD
    refine dL O (bF 15 ah O aj O (aK (eP 15 OD aj) ?_))
    rintro _ w46 H46
    refine bP (lX (.inr O) results111 ?_)
    have ads := H46.f3
    have adt := ads.ug
    exact ⟨_, _, _, _, _, adt.f4.f6.f3.f6.f6.f7.f7⟩
  ·skip
   refine jP 12 O (by kernel_rfl) (jJ (wC .i64) SN) (mg O) ?_
   rintro _ w49 ⟨b49, rfl, H49⟩
   have abX := V.kp (H49.f5.right.f5.f5.f5.f5.f5)
   refine dX abX (fun W hW => (Kp.h hW).right.f4.f4.f4.f4) ?_
   refine oC 8 O (yJ O func117 (og H49.f5)) ?_
   rintro _ w50 ⟨rfl, H50⟩
   have Zh := V.kp (H50.f6.f6.f6.f6.f6.f6)
   refine dX Zh (fun W hW => (Kp.h hW).right.f5.f5.f5.f5.f5) ?_
   refine jC 10 O Zh (fun _ => dW (zl := [.int .i64 0, .map none]) (pl := [(0, 1), (1, 1)]) [_, _] fB mZ O (fun w => by kernel_rfl) O (.on (.on .nil)) O) ?_
   refine oC 11 O (iO (l := [_, _]) H50 O O) ?_
   rintro _ w51 ⟨b51, rfl, H51⟩
   have Rl := V.kp (H51.f7.f7.f7.f7.f7.f7.f7)
   refine dX Rl (fun W hW => (Kp.h hW).right.f6.f6.f6.f6.f6.f6) ?_
   refine jC 18 O Rl (fun _ => dW (zl := [.pointer none, .pointer none, .pointer none, .map none, .int .i64 0, .bool false, .int .i64 0, .int .i64 0, .int .i64 0, .int .i64 0, .bool false]) (pl := [(0, 1), (1, 1), (2, 1), (3, 1), (4, 1), (5, 1), (6, 1), (7, 1), (8, 1), (9, 1), (10, 1)]) [_, _, _, _, _, _, _, _, _, _, _] aH lI O (fun w => by kernel_rfl) O (.on (.on (.on (.on (.on (.zero (zs := [.bool false]) O (.zero (zs := [.int .i64 0]) O (.zero (zs := [.int .i64 0]) O (.zero (zs := [.int .i64 0]) O (.zero (zs := [.int .i64 0]) O (.zero (zs := [.bool false]) O .nil))))))))))) O) ?_
   refine kJ 19 O Rl O (gU 20 O Rl 0 ah O aU O ?_)
   refine fQ 21 O (by kernel_rfl) (bW 0 (l' := [_, _, _, _, _, _, _, _, _, _, _, _, _, _, _, _, _, _, _, _, _, _, _, _, _, _, _, _, _, _, _, _, _, _]) (us := [_, _, _, _, _, _, _, _, _, _, _]) H51.f5 aU O O O (aA (aA (aA (aA (aA (aA (aA (aA (aA (aA (aA bD))))))))))) O O) ?_
   rintro _ w52 Zi
   have abY := V.kp (Zi.f7.f7.f7.f7.f7.f7.f7)
   refine gV abY (by kernel_rfl) ?_
   refine qR (aW (aB (jF O O (nG O O (bF 13 ah O aQ O (aK (eP 13 Zi aQ) ?_))))))
   rintro _ w53 H53
   refine dL O (bF 14 ah O aQ O (aK (eP 14 H53 aQ) ?_))
   rintro _ w54 H54
   refine dL O (bF 15 ah O aj O (aK (eP 15 H54 aj) ?_))
   rintro _ w55 H55
   refine bP (lX (.inr O) results111 ?_)
   have adu := H55.f4
   have adv := adu.ug
   exact ⟨_, _, _, _, _, adv.f4.f6.f3.f6.f6.f7.f7⟩
 ·skip
  refine jP 12 O (by kernel_rfl) (jJ (wC .i64) Yc) (mg O) ?_
  rintro _ w58 ⟨b58, rfl, Ye⟩
  have abZ := V.kp (Ye.f4.right.f4.f4.f4.f4)
  refine dX abZ (fun W hW => (Kp.h hW).right.f3.f3.f3) ?_
  refine xC (i := 8) (j := 9) (by kernel_rfl) ?_ ?_
  ·skip
   refine jP 8 O (by kernel_rfl) (uz (vV O func117 O O) (og Ye.f4)) (mg O) ?_
   rintro _ w59 ⟨rfl, H59⟩
   have ab0 := V.kp (H59.f5.f5.f5.f5.f5)
   refine dX ab0 (fun W hW => (Kp.h hW).right.f4.f4.f4.f4) ?_
   refine oC 9 O (jJ (wC .i64) H59) ?_
   rintro _ w60 ⟨b60, rfl, H60⟩
   have Zj := V.kp (H60.f6.f6.f6.f6.f6.f6)
   refine dX Zj (fun W hW => (Kp.h hW).right.f5.f5.f5.f5.f5) ?_
   refine jC 10 O Zj (fun _ => dW (zl := [.int .i64 0, .map none]) (pl := [(0, 1), (1, 1)]) [_, _] fB mZ O (fun w => by kernel_rfl) O (.on (.on .nil)) O) ?_
   refine oC 11 O (iO (l := [_, _]) H60 O O) ?_
   rintro _ w61 ⟨b61, rfl, H61⟩
   have Rn := V.kp (H61.f7.f7.f7.f7.f7.f7.f7)
   refine dX Rn (fun W hW => (Kp.h hW).right.f6.f6.f6.f6.f6.f6) ?_
   refine jC 18 O Rn (fun _ => dW (zl := [.pointer none, .pointer none, .pointer none, .map none, .int .i64 0, .bool false, .int .i64 0, .int .i64 0, .int .i64 0, .int .i64 0, .bool false]) (pl := [(0, 1), (1, 1), (2, 1), (3, 1), (4, 1), (5, 1), (6, 1), (7, 1), (8, 1), (9, 1), (10, 1)]) [_, _, _, _, _, _, _, _, _, _, _] aH lI O (fun w => by kernel_rfl) O (.on (.on (.on (.on (.on (.zero (zs := [.bool false]) O (.zero (zs := [.int .i64 0]) O (.zero (zs := [.int .i64 0]) O (.zero (zs := [.int .i64 0]) O (.zero (zs := [.int .i64 0]) O (.zero (zs := [.bool false]) O .nil))))))))))) O) ?_
   refine kJ 19 O Rn O (gU 20 O Rn 0 ah O aU O ?_)
   refine fQ 21 O (by kernel_rfl) (bW 0 (l' := [_, _, _, _, _, _, _, _, _, _, _, _, _, _, _, _, _, _, _, _, _, _, _, _, _, _, _, _, _, _, _, _, _, _]) (us := [_, _, _, _, _, _, _, _, _, _, _]) H61.f5 aU O O O (aA (aA (aA (aA (aA (aA (aA (aA (aA (aA (aA bD))))))))))) O O) ?_
   rintro _ w62 H62
   have ab1 := V.kp (H62.f7.f7.f7.f7.f7.f7.f7)
   refine gV ab1 (by kernel_rfl) ?_
   refine qR (aW (aB (jF O O (nG O O (bF 13 ah O aQ O (aK (eP 13 H62 aQ) ?_))))))
   rintro _ w63 H63
   refine dL O (bF 14 ah O aQ O (aK (eP 14 H63 aQ) ?_))
   rintro _ w64 H64
   refine dL O (bF 15 ah O aj O (aK (eP 15 H64 aj) ?_))
   rintro _ w65 H65
   refine bP (lX (.inr O) results111 ?_)
   have adw := H65.f5
   have adx := adw.ug
   exact ⟨_, _, _, _, _, adx.f5.f6.f3.f6.f6.f7.f7⟩
  ·skip
   refine jP 9 O (by kernel_rfl) (jJ (wC .i64) Ye) (mg O) ?_
   rintro _ w68 ⟨b68, rfl, H68⟩
   have ab2 := V.kp (H68.f5.right.f5.f5.f5.f5.f5)
   refine dX ab2 (fun W hW => (Kp.h hW).right.f4.f4.f4.f4) ?_
   refine oC 8 O (yJ O func117 (og H68.f5)) ?_
   rintro _ w69 ⟨rfl, H69⟩
   have Zk := V.kp (H69.f6.f6.f6.f6.f6.f6)
   refine dX Zk (fun W hW => (Kp.h hW).right.f5.f5.f5.f5.f5) ?_
   refine jC 10 O Zk (fun _ => dW (zl := [.int .i64 0, .map none]) (pl := [(0, 1), (1, 1)]) [_, _] fB mZ O (fun w => by kernel_rfl) O (.on (.on .nil)) O) ?_
   refine oC 11 O (iO (l := [_, _]) H69 O O) ?_
   rintro _ w70 ⟨b70, rfl, H70⟩
   have Ro := V.kp (H70.f7.f7.f7.f7.f7.f7.f7)
   refine dX Ro (fun W hW => (Kp.h hW).right.f6.f6.f6.f6.f6.f6) ?_
   refine jC 18 O Ro (fun _ => dW (zl := [.pointer none, .pointer none, .pointer none, .map none, .int .i64 0, .bool false, .int .i64 0, .int .i64 0, .int .i64 0, .int .i64 0, .bool false]) (pl := [(0, 1), (1, 1), (2, 1), (3, 1), (4, 1), (5, 1), (6, 1), (7, 1), (8, 1), (9, 1), (10, 1)]) [_, _, _, _, _, _, _, _, _, _, _] aH lI O (fun w => by kernel_rfl) O (.on (.on (.on (.on (.on (.zero (zs := [.bool false]) O (.zero (zs := [.int .i64 0]) O (.zero (zs := [.int .i64 0]) O (.zero (zs := [.int .i64 0]) O (.zero (zs := [.int .i64 0]) O (.zero (zs := [.bool false]) O .nil))))))))))) O) ?_
   refine kJ 19 O Ro O (gU 20 O Ro 0 ah O aU O ?_)
   refine fQ 21 O (by kernel_rfl) (bW 0 (l' := [_, _, _, _, _, _, _, _, _, _, _, _, _, _, _, _, _, _, _, _, _, _, _, _, _, _, _, _, _, _, _, _, _, _]) (us := [_, _, _, _, _, _, _, _, _, _, _]) H70.f5 aU O O O (aA (aA (aA (aA (aA (aA (aA (aA (aA (aA (aA bD))))))))))) O O) ?_
   rintro _ w71 H71
   have ab3 := V.kp (H71.f7.f7.f7.f7.f7.f7.f7)
   refine gV ab3 (by kernel_rfl) ?_
   refine qR (aW (aB (jF O O (nG O O (bF 13 ah O aQ O (aK (eP 13 H71 aQ) ?_))))))
   rintro _ w72 H72
   refine dL O (bF 14 ah O aQ O (aK (eP 14 H72 aQ) ?_))
   rintro _ w73 H73
   refine dL O (bF 15 ah O aj O (aK (eP 15 H73 aj) ?_))
   rintro _ w74 H74
   refine bP (lX (.inr O) results111 ?_)
   have ady := H74.f5
   have adz := ady.ug
   exact ⟨_, _, _, _, _, adz.f4.f6.f3.f6.f6.f7.f7⟩
theorem V.BZ {c : mD} {u : List Value} (H : V w0 w F) (hu : (u.all fun x => x.oneCell') = true) : V w0 w (uS false c u • F) := by
  unfold uS
  rw [if_neg (by decide)]
  exact H.kE hu
theorem wL {inn : Bool} {c : mD} {u : List Value} (H : V w0 w (uS inn c u • F)) : (u.all fun x => x.oneCell') = true := by
  unfold uS at H
  cases inn with
  | true =>
    rw [if_pos rfl] at H
    obtain ⟨⟨pb, pr, pw, pt, pm⟩, H⟩ := H.lQ
    obtain ⟨h, _⟩ := H.flat.fact
    rw [h]; rfl
  | false =>
    rw [if_neg (by decide)] at H
    exact H.fact.1
theorem V.aav {pb pr pw pt pm : Nat} {c : mD} (H : V w0 w (jg pb c.L c.pt c.mark • iG pr c.E c.at_ • dM pw (.cells #[.int .i64 c.place, .map (some pt)] 122 (0, 0)) • fJ qI pt (rU c.tx) • wR pm c.un • F)) : V w0 w (uS true c (Nj pb pr pw pm c) • F) := by
  unfold uS
  rw [if_pos rfl]
  exact V.iD (pb, pr, pw, pt, pm) (V.deep (V.kE rfl (H.of_eq (by unfold PL; simp only [bZ]))))
theorem V.was {c : mD} {u : List Value} (H : V w0 w (uS true c u • F)) : ∃ pb pr pw pt pm, u = Nj pb pr pw pm c ∧ V w0 w (jg pb c.L c.pt c.mark • iG pr c.E c.at_ • dM pw (.cells #[.int .i64 c.place, .map (some pt)] 122 (0, 0)) • fJ qI pt (rU c.tx) • wR pm c.un • F) := by
  unfold uS at H
  rw [if_pos rfl] at H
  obtain ⟨⟨pb, pr, pw, pt, pm⟩, H⟩ := H.lQ
  obtain ⟨h, H⟩ := H.flat.fact
  exact ⟨pb, pr, pw, pt, pm, h, H.of_eq (by unfold PL; simp only [bZ])⟩
theorem V.Hg {pb pr pw pt pm ph bl : Nat} {u0 u1 u2 u3 u4 u5 u6 u7 u8 u9 ua : Value} (h1 : lT s) (hp : s.put = []) (H : V w0 w (dM e (.cells (.pointer (some ⟨pb, 0, none⟩) :: .pointer (some ⟨pr, 0, none⟩) :: .pointer (some ⟨pw, 0, none⟩) :: .map (some pm) :: .int .i64 s.c.mode :: .bool s.c.over :: .int .i64 s.c.last :: .int .i64 s.c.fr :: .int .i64 s.c.to :: .int .i64 s.c.res :: .bool s.c.run :: .pointer (some ⟨ph, 0, none⟩) :: .pointer (some ⟨bl, 0, none⟩) :: .bool s.given :: .bool s.minus :: .int .i64 s.arg :: .bool s.inn :: u0 :: u1 :: u2 :: u3 :: u4 :: u5 :: u6 :: u7 :: u8 :: u9 :: ua :: .int .i64 s.cls :: .bool s.killed :: .bool s.lH :: .bool s.argues :: .bool s.whole :: .slice none 0 0 :: []).toArray 82 (0, 0)) • jg pb s.c.L s.c.pt s.c.mark • iG pr s.c.E s.c.at_ • dM pw (.cells #[.int .i64 s.c.place, .map (some pt)] 122 (0, 0)) • fJ qI pt (rU s.c.tx) • wR pm s.c.un • gJ ph s.hl s.base s.most • dM bl (.cells #[.int .i64 s.qO] 161 (0, 0)) • uS s.inn s.was [u0, u1, u2, u3, u4, u5, u6, u7, u8, u9, ua] • F)) : V w0 w (gG e s • F) := by
  refine V.iI (pb := pb) (pr := pr) (pw := pw) (pt := pt) (pm := pm) (ph := ph) (bl := bl) (u0 := u0) (u1 := u1) (u2 := u2) (u3 := u3) (u4 := u4) (u5 := u5) (u6 := u6) (u7 := u7) (u8 := u8) (u9 := u9) (ua := ua) (pv := .slice none 0 0) (es := []) h1 (by rw [hp]; rfl) ?_
  rw [hp]
  exact (H.rD none).of_eq (by unfold Jv; ac_rfl)
theorem V.Qb {pb pr pw pt pm ph bl : Nat} {u0 u1 u2 u3 u4 u5 u6 u7 u8 u9 ua : Value} (h1 : lT s) (hp : s.put = []) (hi : s.inn = false) (H : V w0 w (dM e (.cells (.pointer (some ⟨pb, 0, none⟩) :: .pointer (some ⟨pr, 0, none⟩) :: .pointer (some ⟨pw, 0, none⟩) :: .map (some pm) :: .int .i64 s.c.mode :: .bool s.c.over :: .int .i64 s.c.last :: .int .i64 s.c.fr :: .int .i64 s.c.to :: .int .i64 s.c.res :: .bool s.c.run :: .pointer (some ⟨ph, 0, none⟩) :: .pointer (some ⟨bl, 0, none⟩) :: .bool s.given :: .bool s.minus :: .int .i64 s.arg :: .bool false :: u0 :: u1 :: u2 :: u3 :: u4 :: u5 :: u6 :: u7 :: u8 :: u9 :: ua :: .int .i64 s.cls :: .bool s.killed :: .bool s.lH :: .bool s.argues :: .bool s.whole :: .slice none 0 0 :: []).toArray 82 (0, 0)) • jg pb s.c.L s.c.pt s.c.mark • iG pr s.c.E s.c.at_ • dM pw (.cells #[.int .i64 s.c.place, .map (some pt)] 122 (0, 0)) • fJ qI pt (rU s.c.tx) • wR pm s.c.un • gJ ph s.hl s.base s.most • dM bl (.cells #[.int .i64 s.qO] 161 (0, 0)) • F)) (hu : ([u0, u1, u2, u3, u4, u5, u6, u7, u8, u9, ua].all fun x => x.oneCell') = true := by rfl) : V w0 w (gG e s • F) := by
  refine V.Hg (pb := pb) (pr := pr) (pw := pw) (pt := pt) (pm := pm) (ph := ph) (bl := bl) (u0 := u0) (u1 := u1) (u2 := u2) (u3 := u3) (u4 := u4) (u5 := u5) (u6 := u6) (u7 := u7) (u8 := u8) (u9 := u9) (ua := ua) h1 hp ?_
  rw [hi]
  exact (H.BZ (c := s.was) (u := [u0, u1, u2, u3, u4, u5, u6, u7, u8, u9, ua]) hu).of_eq (by ac_rfl)
theorem VZ : iH [] [] = 0 := rfl
theorem NJ (hl : List pO) (l : List Int) (E : List (List Int)) (a : Nat) (m : Int) : PN hl (mD.fresh l E a hl.length m) := ⟨by simp [mD.fresh], by simp [mD.fresh], by simp [mD.fresh]⟩
theorem KX (hl : List pO) (base most : Int) : lT (dJ.new hl base most) :=
  ⟨NJ _ _ _ _ _, by simp [dJ.new], by simp [dJ.new], by simp [dJ.new], by simp [dJ.new, dJ.here, mD.fresh, iH], by simp [dJ.new, mD.fresh]⟩
theorem Qc (H : V w0 w (gJ h hl base most • F)) : gQ prog 57 #[.pointer (some ⟨h, 0, none⟩)] w fun v w' => ∃ e, v = .tuple #[.pointer (some ⟨e, 0, none⟩), .int .i64 0] ∧ V w0 w' (gG e (dJ.new hl base most) • gJ h hl base most • F) := by
  refine iC func57 ntmps57 ?_
  refine iy (fU O (vZ O (bT O (eG O func109 (rF H) ?_))))
  rintro _ w1 ⟨q1, rfl, H1⟩
  refine Z (iT jO O O) (iK (Kr O (fun h1 => ?_)))
  (try simp only [aF] at h1)
  refine fV (iy (Z (dW (zl := [.int .i64 0]) (pl := [(0, 0), (0, 0), (0, 1)]) [_] underlying161 zeroValue161 O (fun w => by kernel_rfl) O (.zero (zs := []) O (.zero (zs := []) O (.zero (zs := [.int .i64 0]) O .nil))) O) (jy (iO (l := [_]) H1 O O) ?_)))
  rintro _ w2 ⟨b2, rfl, H2⟩
  refine Z (dW (zl := [.pointer none, .pointer none, .pointer none, .map none, .int .i64 0, .bool false, .int .i64 0, .int .i64 0, .int .i64 0, .int .i64 0, .bool false, .pointer none, .pointer none, .bool false, .bool false, .int .i64 0, .bool false, .pointer none, .pointer none, .pointer none, .map none, .int .i64 0, .bool false, .int .i64 0, .int .i64 0, .int .i64 0, .int .i64 0, .bool false, .int .i64 0, .bool false, .bool false, .bool false, .bool false, .slice none 0 0]) (pl := [(0, 11), (11, 1), (12, 1), (13, 1), (14, 1), (15, 1), (16, 1), (17, 11), (28, 1), (29, 1), (30, 1), (31, 1), (32, 1), (33, 1)]) [_, _, _, _, _, _, _, _, _, _, _, _, _, _, _, _, _, _, _, _, _, _, _, _, _, _, _, _, _, _, _, _, _, _] ah zeroValue82 O (fun w => by kernel_rfl) O (.zero (zs := [.pointer none, .pointer none, .pointer none, .map none, .int .i64 0, .bool false, .int .i64 0, .int .i64 0, .int .i64 0, .int .i64 0, .bool false]) O (.zero (zs := [.pointer none]) O (.on (.zero (zs := [.bool false]) O (.zero (zs := [.bool false]) O (.zero (zs := [.int .i64 0]) O (.zero (zs := [.bool false]) O (.zero (zs := [.pointer none, .pointer none, .pointer none, .map none, .int .i64 0, .bool false, .int .i64 0, .int .i64 0, .int .i64 0, .int .i64 0, .bool false]) O (.zero (zs := [.int .i64 0]) O (.zero (zs := [.bool false]) O (.zero (zs := [.bool false]) O (.zero (zs := [.bool false]) O (.zero (zs := [.bool false]) O (.zero (zs := [.slice none 0 0]) O .nil)))))))))))))) O) ?_
  refine jy (iO (l := [_, _, _, _, _, _, _, _, _, _, _, _, _, _, _, _, _, _, _, _, _, _, _, _, _, _, _, _, _, _, _, _, _, _]) H2 O O) ?_
  rintro _ w3 ⟨b3, rfl, H3⟩
  refine gB O (bT O (eG O func110 (KA H3) ?_))
  rintro _ w4 ⟨p4, rfl, H4⟩
  refine dL O (bF 0 ah O aU O (bF 1 aH O sizeOf73 O (aK (eP 1 H4.f2 sizeOf73) ?_)))
  rintro _ w5 H5
  refine qQ O (bQ O (eG O func111 (BA (E := []) (a := 0) H5.f4.right.f3.f3.f4.f4 (l := []) (fun W _ => eX.nil W _ none 0 (by decide)) (by decide)) ?_))
  rintro _ w6 ⟨qb, qw, qt, qm, qh, H6⟩
  refine qQ O (fU O (fF O (FX results57 O O ?_)))
  exact ⟨_, O, V.Qb (s := dJ.new hl base most) (KX _ _ _) O O H6.f7.f9.f8.f8.f8.f8.f9.f9.f9⟩
end
section
variable {w0 w : World} {F : HP} {e p h pr : Nat} {s : dJ} {hl : List pO} {base most m : Int} {v : Value} {l : List Int}
theorem vM (h : s.inn = false) : s.jZ = { s with inn := true, was := s.c, cls := 0, killed := false, lH := false, argues := false, whole := true, put := [] } := by unfold dJ.jZ; rw [if_neg (by simp [h])]
theorem Hl (h : s.inn = true) : s.jZ = s := by unfold dJ.jZ; rw [if_pos h]
theorem Rq {G : List (List iU)} {N : List iU} (h : iH G N ≤ 16384) : iH G [] ≤ 16384 := by unfold iH at *; simp at *; omega
theorem NK (h : lT s) (hi : s.inn = false) : lT s.jZ := by
  rw [vM hi]
  obtain ⟨h1, h2, h3, h4, h5, h6⟩ := h
  exact ⟨h1, fun _ => ⟨h1, Rq h5, h6⟩, h3, by simp, Rq h5, h6⟩
theorem Dy (H : V w0 w (gG e s • F)) : gQ prog 29 #[.pointer (some ⟨e, 0, none⟩)] w fun v w' => v = .int .i64 s.BO ∧ V w0 w' (gG e s.jZ • F) := by
 refine iC func29 ntmps29 ?_
 refine jk O (aO (aZ (bT O (eG O func65 (pq H) ?_))))
 rintro _ _ ⟨rfl, rfl⟩
 refine gB O (pW (aO ?_))
 obtain ⟨xO, xP, xQ, xR, xU, xW, xX, xY, uK, sG, sH, sJ, sK, sN, sO, sQ, sS, sU, sV, sW, iw, dI, lg, iL⟩ := (H).Gz
 refine aB (nG O O (bF 16 ah O aQ O (gq bM O (iL).get.2 O (gB O (bG O (fun h1 => ?_) (fun h1 => ?_))))))
 ·(try simp only [aF] at h1)
  have hin := h1
  refine jd O (aS (aG (dG results29 O ?_)))
  exact ⟨by unfold dJ.BO; rw [if_pos hin], by rw [Hl hin]; exact V.iI iw dI iL.f11.f11.f11.f11.f11.f11.f11.f11.f11.f11.f11⟩
 ·(try simp only [aF] at h1)
  have hin := h1
  refine bU (aJ (aW (bT O (jF O O (dL O (bF 0 ah O aU O (Z (nY 0 (xs := [_, _, _, _, _, _, _, _, _, _, _]) aH O aU O O (iL).get.2 O) (eG O func80 (Nq iL.f6.f6.f6.f6.f6) ?_))))))))
  rintro _ w3 ⟨qb3, qr3, qw3, qt3, qm3, rfl, H3⟩
  refine dL O (bF 16 ah O aQ O (aK (eP 16 H3.f11 aQ) ?_))
  rintro _ w4 H4
  refine dL O (bF 17 ah O aU O (aK (bW 17 (l' := [_, _, _, _, _, _, _, _, _, _, _, _, _, _, _, _, _, _, _, _, _, _, _, _, _, _, _, _, _, _, _, _, _, _]) (us := [_, _, _, _, _, _, _, _, _, _, _]) H4 aU O O O (aA (aA (aA (aA (aA (aA (aA (aA (aA (aA (aA bD))))))))))) O O) ?_))
  rintro _ w5 H5
  refine qQ O (jF O O (jF O O (nG O O (bF 28 ah O aj O (aK (eP 28 H5 aj) ?_)))))
  rintro _ w6 H6
  refine dL O (bF 29 ah O aQ O (aK (eP 29 H6 aQ) ?_))
  rintro _ w7 H7
  refine dL O (bF 30 ah O aQ O (aK (eP 30 H7 aQ) ?_))
  rintro _ w8 H8
  refine dL O (bF 31 ah O aQ O (aK (eP 31 H8 aQ) ?_))
  rintro _ w9 H9
  refine dL O (bF 32 ah O aQ O (aK (eP 32 H9 aQ) ?_))
  rintro _ w10 ql
  refine dL O (bF 33 ah O bJ O (aK (eP 33 ql bJ) ?_))
  rintro _ EI rE
  refine iK (jd O (dG results29 O ?_))
  have P5 := rE.f6.f6.f6.f6.f6
  have P6 := V.aav (c := s.c) P5
  exact ⟨by unfold dJ.BO; rw [if_neg (by simp [hin])], by rw [vM hin]; exact V.Hg (vM hin ▸ NK iw hin) O P6.f10.right.f10.right.f10.right.f9.f9.f9.f9.f9.f9.f9.f9⟩
end
section
variable {w0 w : World} {F : HP} {e p h pr : Nat} {s : dJ} {x : Int} {b : Bool}
theorem JK (h : lT s) (L : List Int) (pt mk : Int) : lT (s.yV L pt mk) := h
theorem EN (H : V w0 w (gG e s • F)) : gQ prog 30 #[.pointer (some ⟨e, 0, none⟩), .int .i64 x] w fun v w' => v = .int .i64 (s.Jz x) ∧ V w0 w' (gG e (s.EJ x) • F) := by
 refine nH func30 ntmps30 ?_
 refine jk O (aO (bT O (eG O func81 (uf H) ?_)))
 rintro _ _ ⟨rfl, rfl⟩
 refine gB O (bT O (Z (iZ O O) (iV O (fun h1 => ?_) (fun h1 => ?_))))
 ·(try simp only [aF] at h1)
  obtain ⟨hin, hpe⟩ := Ri h1
  refine bT O (fF O (aG (dG results30 O ?_)))
  rw [hpe]
  exact ⟨by simp [dJ.Jz, dJ.EJ, hin], by rw [show s.EJ x = s from by simp [dJ.Jz, dJ.EJ, hin]]; exact H⟩
 ·(try simp only [aF] at h1)
  have hin := ND h1
  refine fV (aO ?_)
  obtain ⟨xO, xP, xQ, xR, xU, xW, xX, xY, uK, sG, sH, sJ, sK, sN, sO, sQ, sS, sU, sV, sW, iw, dI, lg, iL⟩ := (H).Gz
  refine aB (nG O O (bF 0 ah O aU O (bF 0 aH O vK O (gq qo O (iL).get.2 O (bQ O (eG O func82 (Ky iL.f2) ?_))))))
  rintro _ w3 ⟨rfl, H3⟩
  refine fF O (dG results30 O ?_)
  exact ⟨by simp [dJ.Jz, hin], by rw [show s.EJ x = s.yV s.c.L (mvP s.c.L.length s.c.pt x) s.c.mark from by simp [dJ.EJ, hin]]; exact V.iI (JK iw _ _ _) dI H3.f11.f11.f11.f11.f11.f11.f11.f11.f11.f10.f11⟩
theorem NM (H : V w0 w (gG e s • F)) : gQ prog 62 #[.pointer (some ⟨e, 0, none⟩), .int .i64 x] w fun v w' => v = .int .i64 (s.rG x) ∧ V w0 w' (gG e (s.yA x) • F) := by
 refine nH func62 ntmps62 ?_
 refine jk O (aO (bT O (eG O func81 (uf H) ?_)))
 rintro _ _ ⟨rfl, rfl⟩
 refine gB O (bT O (Z (iZ O O) (iV O (fun h1 => ?_) (fun h1 => ?_))))
 ·(try simp only [aF] at h1)
  obtain ⟨hin, hpe⟩ := Ri h1
  refine bT O (fF O (aG (dG results62 O ?_)))
  rw [hpe]
  exact ⟨by simp [dJ.rG, dJ.yA, hin], by rw [show s.yA x = s from by simp [dJ.rG, dJ.yA, hin]]; exact H⟩
 ·(try simp only [aF] at h1)
  have hin := ND h1
  refine fV (aO (bT O (Z (gZ O O) (jL O (fun h2 => ?_) (fun h2 => ?_)))))
  ·(try simp only [aF] at h2)
   refine bH (bH (jw O O (iK (Iz (jd O (aG (dG results62 O ?_)))))))
   have hd : s.rG x = 1 := by unfold dJ.rG; rw [if_pos hin, if_pos (by omega)]
   exact ⟨by rw [hd], by unfold dJ.yA; rw [hd, if_neg (by decide)]; exact H⟩
  ·(try simp only [aF] at h2)
   refine bC (bQ O (bC (Z (jc O O) (iJ O O (iV O (fun h3 => ?_) (fun h3 => ?_))))))
   ·(try simp only [aF] at h3)
    refine jd O (aG (dG results62 O ?_))
    have hd : s.rG x = 1 := by unfold dJ.rG; rw [if_pos hin, if_pos (by omega)]
    exact ⟨by rw [hd], by unfold dJ.yA; rw [hd, if_neg (by decide)]; exact H⟩
   ·(try simp only [aF] at h3)
    refine fV (aO ?_)
    have hd : s.rG x = 0 := by unfold dJ.rG; rw [if_pos hin, if_neg (by omega)]
    obtain ⟨xO, xP, xQ, xR, xU, xW, xX, xY, uK, sG, sH, sJ, sK, sN, sO, sQ, sS, sU, sV, sW, iw, dI, lg, iL⟩ := (H).Gz
    refine aB (jF O O (dL O (bF 0 ah O aU O (bF 4 aH O aj O (aK (eP 4 iL aj) ?_)))))
    rintro _ w3 H3
    refine iK (jd O (dG results62 O ?_))
    rw [hd]
    refine ⟨O, ?_⟩
    unfold dJ.yA
    rw [if_pos hd]
    exact V.iI (s := { s with c := { s.c with mode := x } }) iw dI H3.f11.f11.f11.f11.f11.f11.f11.f11.f11.f11.f11
theorem KZ (H : V w0 w (gG e s • F)) : gQ prog 72 #[.pointer (some ⟨e, 0, none⟩)] w fun v w' => v = .int .i64 s.count ∧ V w0 w' (gG e s • F) := by
 refine iC func72 ntmps72 ?_
 refine jk O (aO (aZ (bT O (eG O func65 (pq H) ?_))))
 rintro _ _ ⟨rfl, rfl⟩
 refine gB O (pW (aO ?_))
 obtain ⟨xO, xP, xQ, xR, xU, xW, xX, xY, uK, sG, sH, sJ, sK, sN, sO, sQ, sS, sU, sV, sW, iw, dI, lg, iL⟩ := (H).Gz
 have harg := iw.2.2.1
 refine aB (nG O O (bF 13 ah O aQ O (gq bM O (iL).get.2 O (Z (lS O) (gB O (bG O (fun h1 => ?_) (fun h1 => ?_)))))))
 ·(try simp only [aF] at h1)
  have hg := h1
  refine jd O (aS (aG (dG results72 O ?_)))
  have O9 := iL.f11.f11.f11.f11.f11.f11.f11.f11.f11.f11.f11
  have OB := V.iI (s := s) iw dI O9
  exact ⟨by unfold dJ.count; simp only [*]; first | rfl | (split <;> simp_all <;> omega) | simp_all, OB⟩
 ·(try simp only [aF] at h1)
  have hg := h1
  refine bU (aJ (aW (bT O (dL O (bF 15 ah O aj O (gq aN O (iL).get.2 O (vZ O (bT O (Z (gZ O O) (iV O (fun h2 => ?_) (fun h2 => ?_)))))))))))
  ·(try simp only [aF] at h2)
   refine aB (vZ O (bT O (dL O (bF 14 ah O aQ O (gq bM O (iL).get.2 O (iV O (fun h3 => ?_) (fun h3 => ?_)))))))
   ·(try simp only [aF] at h3)
    refine bT O (Z (YP O (by omega)) (fF O (aG (dG results72 O ?_))))
    have U6 := iL.f11.f11.f11.f11.f11.f11.f11.f11.f11.f11.f11
    have U7 := V.iI (s := s) iw dI U6
    exact ⟨by unfold dJ.count; simp only [*]; first | rfl | (split <;> simp_all <;> omega) | simp_all, U7⟩
   ·(try simp only [aF] at h3)
    refine fV (bT O (fF O (dG results72 O ?_)))
    have Vb := iL.f11.f11.f11.f11.f11.f11.f11.f11.f11.f11.f11
    have Vd := V.iI (s := s) iw dI Vb
    exact ⟨by unfold dJ.count; simp only [*]; first | rfl | (split <;> simp_all <;> omega) | simp_all, Vd⟩
  ·(try simp only [aF] at h2)
   refine fV (aO (bT O (dL O (bF 14 ah O aQ O (gq bM O (iL).get.2 O (iV O (fun h4 => ?_) (fun h4 => ?_)))))))
   ·(try simp only [aF] at h4)
    refine bT O (Z (YP O (by omega)) (fF O (aG (dG results72 O ?_))))
    have aaw := iL.f11.f11.f11.f11.f11.f11.f11.f11.f11.f11.f11
    have aax := V.iI (s := s) iw dI aaw
    exact ⟨by unfold dJ.count; simp only [*]; first | rfl | (split <;> simp_all <;> omega) | simp_all, aax⟩
   ·(try simp only [aF] at h4)
    refine fV (bT O (fF O (dG results72 O ?_)))
    have adA := iL.f11.f11.f11.f11.f11.f11.f11.f11.f11.f11.f11
    have adB := V.iI (s := s) iw dI adA
    exact ⟨by unfold dJ.count; simp only [*]; first | rfl | (split <;> simp_all <;> omega) | simp_all, adB⟩
theorem La (H : V w0 w (gG e s • F)) : gQ prog 73 #[.pointer (some ⟨e, 0, none⟩)] w fun v w' => v = .bool s.given ∧ V w0 w' (gG e s • F) := by
  refine iC func73 ntmps73 ?_
  refine jk O (bT O (eG O func65 (pq H) ?_))
  rintro _ _ ⟨rfl, rfl⟩
  refine Z (lS O) ?_
  obtain ⟨xO, xP, xQ, xR, xU, xW, xX, xY, uK, sG, sH, sJ, sK, sN, sO, sQ, sS, sU, sV, sW, iw, dI, lg, iL⟩ := (H).Gz
  refine xsE O (fun h1 => ?_)
  (try simp only [aF] at h1)
  refine bC (bQ O (bC (dL O (bC (bF 13 ah O aQ O (bC (gq bM O (iL).get.2 O (jw O O (fF O (dG results73 O ?_))))))))))
  have O9 := iL.f11.f11.f11.f11.f11.f11.f11.f11.f11.f11.f11
  have OB := V.iI (s := s) iw dI O9
  exact ⟨O, OB⟩
theorem Ae (H : V w0 w (gG e s • F)) : gQ prog 28 #[.pointer (some ⟨e, 0, none⟩)] w fun v w' => ∃ u, v = .agg (rZ u s.c.pt s.c.mark) ∧ V w0 w' (kT 21 .i32 u s.c.L • gG e s • F) := by
 refine iC func28 ntmps28 ?_
 refine iy (jy (fM (l := [_, _, _]) H zeroValue46 O) ?_)
 rintro _ w1 ⟨b1, rfl, H1⟩
 refine pJ (bT O (eG O func65 (pq H1.f2) ?_))
 rintro _ _ ⟨rfl, rfl⟩
 refine iK (pW (fV (aO ?_)))
 obtain ⟨xO, xP, xQ, xR, xU, xW, xX, xY, uK, sG, sH, sJ, sK, sN, sO, sQ, sS, sU, sV, sW, iw, dI, lg, iL⟩ := (H1.f2).Gz
 refine aB (nG O O (bF 0 ah O aU O (bF 0 aH O vK O (gq qo O (iL).get.2 O (eG O func79 (CZ iL.f2) ?_)))))
 rintro _ w4 ⟨u4, rfl, H4⟩
 refine aK (bW 0 (l' := [_, _, _]) (us := [_, _, _]) H4.f13 sizeOf46 O O O (aX (by first | rfl | exact Rd.one ((H4).aT)) (aA (aA bD))) O O) ?_
 rintro _ w5 H5
 refine YV ?_
 refine pY (.inl O) (J8 results28 O jo O (by rw [UC]; rfl) (H5).get.2) ?_
 have U6 := H5.f13.f13.f13.f13.f13.f13.f13.f13.f13.f12.f13
 have U7 := V.iI (s := s) iw dI U6
 exact ⟨_, O, U7.f2.right.f2⟩
end
end Go.Proofs.YtpdeedplgmbopaaGreatDoor
end
section
namespace Go.Proofs.YtpdeedplgmbopaaGreatDoor
open Go.RowKit
theorem V3 {s : dJ} {x : iU} (h : x.2.1.length + x.2.2.length = 0) : s.QW x = s := by unfold dJ.QW; rw [if_pos h]
theorem oq (G : List (List iU)) (N : List iU) : iH G N = iH G [] + N.length := by unfold iH; simp
section
variable {w0 w : World} {F : HP} {e p h pr : Nat} {s : dJ} {i j x : Int} {b : Bool} {v : Value} {l : List Int}
end
end Go.Proofs.YtpdeedplgmbopaaGreatDoor
end
