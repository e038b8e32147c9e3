import Derived.Test.YtimndnfpcomhlaaGreatDoorZ4
import Derived.Test.YtimndnfpcomhlaaGreatDoorZ10
import Derived.Test.YtimndnfpcomhlaaGreatDoorZ5
import Derived.Lib.OthersKept
import Derived.Lib.Bytealg
import Derived.Conc.AtomicLaws2
import Derived.Test.YtimndnfpcomhlaaGreatDoorZ3
set_option linter.unusedSimpArgs false
set_option linter.unusedVariables false
/- Texts of mine, joined, their names in short: EdA Atom EdB EdC EdMv. -/
section
namespace Go.Proofs.YtimndnfpcomhlaaGreatDoor
open Go.RowKit
open _root_.Go.Proofs.Tryz
def Iu (D : List Int) (P : Int → Nat) (k : Int) : Option Addr := if k ∈ D then some ⟨P k, 0, none⟩ else none
theorem Rk (D : List Int) (P : Int → Nat) (k : Int) : (NZ D P k).getD (.pointer none) = .pointer (Iu D P k) := by unfold NZ Iu; split <;> rfl
theorem Oa {D : List Int} {P : Int → Nat} {k : Int} (h : k ∈ D) : Iu D P k = some ⟨P k, 0, none⟩ := if_pos h
theorem TB {D : List Int} {P : Int → Nat} {k : Int} (h : (Iu D P k).isNone = false) : k ∈ D := by
  unfold Iu at h
  split at h
  · assumption
  · cases h
theorem TD {D : List Int} {P : Int → Nat} {k : Int} (h : (Iu D P k).isNone = true) : k ∉ D := by
  unfold Iu at h
  split at h
  · cases h
  · assumption
theorem rQ {s : aY} (h : ¬ s.yP = 0) : s.inn = false ∧ s.yP = 1 := by
  unfold aY.yP at *
  cases hi : s.inn <;> simp_all
theorem oW {s : aY} (h : s.yP = 0) : s.inn = true := by
  unfold aY.yP at h
  cases hi : s.inn <;> simp_all
theorem V.ab7 {w0 w : World} {A B C F : HP} (H : V w0 w (A • B • C • F)) : V w0 w (A • (B • C) • F) := H.of_eq (by rw [dI])
section
variable {w0 w : World} {F : HP} {e p : Nat} {s : aY}
theorem Fz (H : V w0 w (eH e s • F)) : iU prog 17 #[.pointer (some ⟨e, 0, none⟩)] w fun v w' => v = .bool false ∧ w = w' := by
 refine ji func17 ntmps17 ?_
 refine lZ O (aO ?_)
 obtain ⟨qV, rC, rD, rZ, rE, rF, rG, rH, qA, oZ, o7, o8, o9, pq, pz, pF, pG, pI, pJ, pK, dV, bP, jh, dY⟩ := (H).Dy
 refine aC (cZ O (aV (kV underlying28 O O) (qC O (fun h1 => ?_) (fun h1 => ?_))))
 ·(try simp only [aH] at h1)
  exfalso; first | contradiction | omega
 ·(try simp only [aH] at h1)
  refine bU (cZ O (bU (dM O (bU (bf 11 ah O sizeOf48 O (bU (dQ lC O (dY).get.2 O (bU (aV (kV lC O O) (lV O O (iW O (fB results17 O ?_))))))))))))
  exact ⟨O, O⟩
theorem jm (H : V w0 w (eH e s • F)) : iU prog 32 #[.pointer (some ⟨e, 0, none⟩)] w fun v w' => v = .int .i64 s.yP ∧ w = w' := by
 unfold aY.yP
 refine ji func32 ntmps32 ?_
 refine lZ O (aO (bn (bM O (dZ O func17 (Fz H) ?_))))
 rintro _ _ ⟨rfl, rfl⟩
 refine gY O (vO (aO ?_))
 obtain ⟨qV, rC, rD, rZ, rE, rF, rG, rH, qA, oZ, o7, o8, o9, pq, pz, pF, pG, pI, pJ, pK, dV, bP, jh, dY⟩ := (H).Dy
 refine aC (ny O O (bf 16 ah O aQ O (dQ bW O (dY).get.2 O (aV (oO O) (gY O (bI O (fun h1 => ?_) (fun h1 => ?_)))))))
 ·(try simp only [aH] at h1)
  refine lF O (bD (aK (fB results32 O ?_)))
  exact ⟨by simp [*], O⟩
 ·(try simp only [aH] at h1)
  refine fU (aN (bg (lF O (fB results32 O ?_))))
  exact ⟨by simp [*], O⟩
theorem xH {x0 x1 x4 x5 x6 x7 x8 x9 x10 x11 x12 yV x14 x15 x16 x17 x18 x19 x20 x21 zM x23 x24 x25 zN x27 x28 x29 x30 x31 x32 Bq : Value} {pw pt pm : Nat} {k : Int} {U : Int → List (List gV)} (H : V w0 w (dR e (.cells (x0 :: x1 :: .pointer (some ⟨pw, 0, none⟩) :: .map (some pm) :: x4 :: x5 :: x6 :: x7 :: x8 :: x9 :: x10 :: x11 :: x12 :: yV :: x14 :: x15 :: x16 :: x17 :: x18 :: x19 :: x20 :: x21 :: zM :: x23 :: x24 :: x25 :: zN :: x27 :: x28 :: x29 :: x30 :: x31 :: x32 :: Bq :: []).toArray 69 (0, 0)) • dR pw (.cells #[.int .i64 k, .map (some pt)] 81 (0, 0)) • vW pm U • F)) : iU prog 55 #[.pointer (some ⟨e, 0, none⟩)] w fun v w' => ∃ p, v = .pointer (some ⟨p, 0, none⟩) ∧
  V w0 w' (iL p (U k) [] 0 • J6 pm U k p • dR e (.cells (x0 :: x1 :: .pointer (some ⟨pw, 0, none⟩) :: .map (some pm) :: x4 :: x5 :: x6 :: x7 :: x8 :: x9 :: x10 :: x11 :: x12 :: yV :: x14 :: x15 :: x16 :: x17 :: x18 :: x19 :: x20 :: x21 :: zM :: x23 :: x24 :: x25 :: zN :: x27 :: x28 :: x29 :: x30 :: x31 :: x32 :: Bq :: []).toArray 69 (0, 0)) • dR pw (.cells #[.int .i64 k, .map (some pt)] 81 (0, 0)) • F) := by
 refine ji func55 ntmps55 ?_
 refine lZ O (aO ?_)
 obtain ⟨D, P, hD1, hD2, HU⟩ := (H.f3).Vx
 have ZG := HU.drew
 have wE := V.kp (ZG.f4.f4.f4.f4)
 refine xP [4, 9, 12, 13] wE O (jc 0 O wE O (kN 1 O wE O (fV 2 O wE 0 ah O aJ O (fV 3 O wE 3 aA O sizeOf63 O (jq 4 O wE (fun W hW => jV lD O ((Kp.h hW).f3).get.2 O) (jc 5 O wE O (kN 6 O wE O (fV 7 O wE 0 ah O aJ O (fV 8 O wE 2 aA O kJ O (jq 9 O wE (fun W hW => jV iM O ((Kp.h hW).f3).get.2 O) (kN 10 O wE O (fV 11 O wE 0 dP O aj O (jq 12 O wE (fun W hW => jV ay O ((Kp.h hW).f4).get.2 O) (jq 13 O wE (fun W hW => Ut (NS ((Kp.h hW)) lD ay zeroValue121 O O) (Rk D P k)) (jW 14 O wE (fun _ => iV O) (qp (bg (aO (bM O (aV (kV underlying121 O O) (kK O (fun h1 => ?_) (fun h1 => ?_))))))))))))))))))))))
 ·(try simp only [aH] at h1)
  have hnm := TD h1
  refine jg (dZ O func98 (Lp ZG) ?_)
  rintro _ w1 ⟨p1, rfl, H1⟩
  refine gY O ?_
  have aaZ := H1.drew
  have xq := V.kp (aaZ.f5.f5.f5.f5.f5)
  refine xP [4, 9, 12] xq O (jc 0 O xq O (kN 1 O xq O (fV 2 O xq 0 ah O aJ O (fV 3 O xq 3 aA O sizeOf63 O (jq 4 O xq (fun W hW => jV lD O ((Kp.h hW).f4).get.2 O) (jc 5 O xq O (kN 6 O xq O (fV 7 O xq 0 ah O aJ O (fV 8 O xq 2 aA O kJ O (jq 9 O xq (fun W hW => jV iM O ((Kp.h hW).f4).get.2 O) (kN 10 O xq O (fV 11 O xq 0 dP O aj O (jq 12 O xq (fun W hW => jV ay O ((Kp.h hW).f5).get.2 O) (jc 13 O xq O ?_))))))))))))))
  refine eF 14 O (by kernel_rfl) (xG aaZ.f2 lD ay O O O) ?_
  rintro _ w2 H2
  have NJ := V.kp (H2.f5.f5.f5.f5.f5)
  refine iC NJ (by kernel_rfl) ?_
  refine qp (bg (bM O (iW O (fB results55 O ?_))))
  have hu1 : Fv (vF P k p1) U (D ++ [k]) = (Fv P U D • iL p1 [] [] 0) := by
   rw [Iq, gZ, hD2 _ hnm, BI (P' := P) (U' := U) fun x hx => ⟨vG _ _ (by rintro rfl; exact hnm hx), rfl⟩]
  have HM := V.ab7 H2.f5.f5.f4.f5.f5
  rw [← hu1, ← N9 hnm] at HM
  have HZ := V.Vy (k := k) (Ir hD1 hnm) (fun k hk => hD2 k fun hm => hk (by simp [hm])) (by simp) HM
  rw [gZ] at HZ
  exact ⟨_, O, HZ⟩
 ·(try simp only [aH] at h1)
  have hmem := TB h1
  rw [Oa hmem]
  refine iq (bM O (iW O (fB results55 O ?_)))
  exact ⟨_, O, V.Vy hD1 hD2 hmem ZG.f4.f4.f4.f4⟩
theorem V.LV {b p : Nat} {k : Int} {U : Int → List (List gV)} (H : V w0 w (J6 b U k p • iL p (U k) [] 0 • F)) : V w0 w (vW b U • F) := by
  have := H.wO
  rwa [Q7] at this
end
end Go.Proofs.YtimndnfpcomhlaaGreatDoor
end
section
namespace Go.Proofs.YtimndnfpcomhlaaGreatDoor
open Go.RowKit Go.Lib
section
variable {P : Program} {L : List (Nat × Value)} {w0 w : World} {F : HP} {ty : TypeId} {b : Nat} {v d : Int} {t : TypeId}
theorem YH {T : Value → World → Prop} {f : FuncId} {args : List Operand} {ts : Array TypeId} {vs : List Value} {fn : Func} {e : Array Value → Sem Value} {v : Value} {w' : World} (ha : EW L args = some vs)
    (hf : P.funcs[f]? = some fn) (hname : (fn.name == "runtime.NumGoroutine") = false) (hb : fn.body.isNone = true) (hn : Extern.findNext fn = none) (he : Extern.find fn = some e) (hr : (e vs.toArray).run P w = .ok v w') (ht : T v w') :
    vP P L (.call ⟨.value (.func f), args.toArray, ts⟩) ty w T := um (v := v) (w' := w') (fun ρ hρ _ _ _ _ => by
  have hg : ρ (.func f) = .func (.func f) #[] #[] := hρ _ _ rfl
  have hc := run_callFunc_extern hf hname hb hn he vs.toArray w
  rw [hr] at hc
  simp [execOp, resolve, invoke, evs hρ _ _ ha, hg, Deferred.ofValue]
  exact hc) ht
theorem Qh (hc : w.cell? ⟨b, 0, none⟩ = some (.int .i64 v)) : (Extern.Atomic.loadT (.int .i64) #[.pointer (some ⟨b, 0, none⟩)]).run P w = .ok (.int .i64 v) w := by
  change Sem.run P (do Extern.Atomic.read (.int .i64) (← asAddr (.pointer (some ⟨b, 0, none⟩)))) w = _
  simp [Extern.Atomic.read, asAddr, hc, Result.andThen]
theorem XY {f : FuncId} {args : List Operand} {ts : Array TypeId} {fn : Func} (H : V w0 w (dR b (.cells #[.int .i64 v] t (0, 0)) • F)) (ha : EW L args = some [.pointer (some ⟨b, 0, none⟩), .int .i64 d])
    (hf : P.funcs[f]? = some fn) (hname : (fn.name == "runtime.NumGoroutine") = false) (hb : fn.body.isNone = true) (hn : Extern.findNext fn = none) (he : Extern.find fn = some (Extern.Atomic.update (Op.intArith .add) .i64 true)) :
    vP P L (.call ⟨.value (.func f), args.toArray, ts⟩) ty w fun u w' => u = .int .i64 (IntKind.i64.wrap (v + d)) ∧ V w0 w' (dR b (.cells #[.int .i64 (IntKind.i64.wrap (v + d))] t (0, 0)) • F) :=
  YH ha hf hname hb hn he (Conc.run_add_entry (iP H.get.2 rfl) (EX H.get.2)) ⟨rfl, H.setCell (i := 0) _⟩
theorem VG {f : FuncId} {args : List Operand} {ts : Array TypeId} {fn : Func} (H : V w0 w (dR b (.cells #[.int .i64 v] t (0, 0)) • F)) (ha : EW L args = some [.pointer (some ⟨b, 0, none⟩)])
    (hf : P.funcs[f]? = some fn) (hname : (fn.name == "runtime.NumGoroutine") = false) (hb : fn.body.isNone = true) (hn : Extern.findNext fn = none) (he : Extern.find fn = some (Extern.Atomic.loadT (.int .i64))) :
    vP P L (.call ⟨.value (.func f), args.toArray, ts⟩) ty w fun u w' => u = .int .i64 v ∧ w = w' :=
  YH ha hf hname hb hn he (Qh (iP H.get.2 rfl)) ⟨rfl, rfl⟩
theorem Ee (H : V w0 w (dR b (.cells #[.int .i64 v] t (0, 0)) • F)) : iU Tryz.prog 33 #[.pointer (some ⟨b, 0, none⟩), .int .i64 d] w fun u w' => u = .int .i64 (IntKind.i64.wrap (v + d)) ∧ V w0 w' (dR b (.cells #[.int .i64 (IntKind.i64.wrap (v + d))] t (0, 0)) • F) := by
  refine oP Tryz.func33 Tryz.ntmps33 ?_
  refine lZ O (bM O (dM O (bf 0 Tryz.underlying97 O jS O (cZ O (jL (XY H O Tryz.func72 O O (by kernel_rfl) (by kernel_rfl)) ?_)))))
  rintro _ w1 ⟨rfl, H1⟩
  refine iW O (fB Tryz.results33 O ?_)
  exact ⟨O, H1⟩
theorem pU (H : V w0 w (dR b (.cells #[.int .i64 v] t (0, 0)) • F)) : iU Tryz.prog 39 #[.pointer (some ⟨b, 0, none⟩)] w fun u w' => u = .int .i64 v ∧ w = w' := by
  refine ji Tryz.func39 Tryz.ntmps39 ?_
  refine lZ O (bM O (dM O (bf 0 Tryz.underlying97 O jS O (jL (VG H O Tryz.func82 O O (by kernel_rfl) (by kernel_rfl)) ?_))))
  rintro _ _ ⟨rfl, rfl⟩
  refine iW O (fB Tryz.results39 O ?_)
  exact ⟨O, O⟩
end
end Go.Proofs.YtimndnfpcomhlaaGreatDoor
end
section
namespace Go.Proofs.YtimndnfpcomhlaaGreatDoor
open Go.RowKit
open _root_.Go.Proofs.Tryz
section
variable {w0 w : World} {F : HP} {e p h pr : Nat} {s : aY} {hl : List qE} {base most m : Int} {v : Value} {l : List Int}
theorem V.vI {b : Nat} (H : V w0 w (iI qH b (fun _ => none) • F)) : V w0 w (vW b (fun _ => []) • F) :=
  V.BJ (D := []) (P := fun _ => 0) List.nodup_nil (fun _ _ => rfl) (by rw [Rj]; exact H.of_eq (by show _ = (_ • emp • _); rw [YtimndnfpcomhlaaGreatDoor.oh]))
set_option maxHeartbeats 1000000 in
theorem Jw {x0 x2 x3 x5 x6 x7 x8 x9 x10 x11 x12 yV x14 x15 x16 x17 x18 x19 x20 x21 zM x23 x24 x25 zN x27 x28 x29 x30 x31 x32 Bq : Value} {E : List (List Int)} {a : Nat} (H : V w0 w (dR e (.cells (x0 :: .pointer (some ⟨pr, 0, none⟩) :: x2 :: x3 :: .int .i64 m :: x5 :: x6 :: x7 :: x8 :: x9 :: x10 :: x11 :: x12 :: yV :: x14 :: x15 :: x16 :: x17 :: x18 :: x19 :: x20 :: x21 :: zM :: x23 :: x24 :: x25 :: zN :: x27 :: x28 :: x29 :: x30 :: x31 :: x32 :: Bq :: []).toArray 69 (0, 0)) • gK h hl base most • F)) (hr : kP w0 F .i32 v l) (hshort : l.length ≤ 1024) :
  iU prog 47 #[.pointer (some ⟨e, 0, none⟩), .pointer (some ⟨h, 0, none⟩), v] w fun _ w' => ∃ pb pw pt pm ph, V w0 w' (dR e (.cells (.pointer (some ⟨pb, 0, none⟩) :: .pointer (some ⟨pr, 0, none⟩) :: .pointer (some ⟨pw, 0, none⟩) :: .map (some pm) :: .int .i64 m :: .bool false :: .int .i64 0 :: .int .i64 0 :: .int .i64 0 :: .int .i64 0 :: .bool false :: .pointer (some ⟨ph, 0, none⟩) :: x12 :: .bool false :: .bool false :: .int .i64 (-1) :: x16 :: x17 :: x18 :: x19 :: x20 :: x21 :: zM :: x23 :: x24 :: x25 :: zN :: x27 :: x28 :: x29 :: x30 :: x31 :: x32 :: Bq :: []).toArray 69 (0, 0)) •
   fF pb l l.length (-1) • dR pw (.cells #[.int .i64 hl.length, .map (some pt)] 81 (0, 0)) • iI qH pt (fun _ => none) • vW pm (fun _ => []) • gK ph hl base most • gK h hl base most • F) := by
 refine FQ func47 ntmps47 ?_
 refine bM O (dZ O func71 (Fa H (fun W HW => hr _ (HW.right.right)) hshort) ?_)
 rintro _ w1 ⟨p1, rfl, H1⟩
 refine cZ O (rO O O (rO O O (lU O (gY O (bM O (cZ O (dZ O func45 (AP H1.f3) ?_)))))))
 rintro _ w2 ⟨q2, rfl, H2⟩
 refine dM O (bf 11 ah O sizeOf48 O (aI (dN 11 H2.f4 sizeOf48) ?_))
 rintro _ w3 H3
 refine qj ?_
 have XZ := H3.drew
 have xI := V.kp (XZ.f3.right.f3.f3.f3)
 refine xP [6, 17] xI O (jc 0 O xI O (jc 1 O xI O (jc 2 O xI O (kN 3 O xI O (fV 4 O xI 0 ah O aJ O (fV 5 O xI 1 aA O sizeOf61 O (jq 6 O xI (fun W hW => jV nT O ((Kp.h hW)).get.2 O) (jc 7 O xI O (jc 13 O xI O (kN 14 O xI O (fV 15 O xI 0 ah O aJ O (fV 16 O xI 4 aA O aj O (jq 17 O xI (fun W hW => jV ay O ((Kp.h hW)).get.2 O) ?_)))))))))))))
 refine Uw (i := 8) (j := 9) (k := 12) (by kernel_rfl) ?_ ?_ ?_
 ·skip
  refine jZ 8 O (by kernel_rfl) (tq (tu O func67 O O) (nN XZ.f3)) (jY O) ?_
  rintro _ w4 ⟨rfl, H4⟩
  have kW := V.kp (H4.f4.f4.f4.f4)
  refine dK kW (fun W hW => (Kp.h hW).right.f3.f3.f3) ?_
  refine xO (i := 9) (j := 12) (by kernel_rfl) ?_ ?_
  ·skip
   refine jZ 9 O (by kernel_rfl) (lT (BR .i64) H4) (jY O) ?_
   rintro _ w5 ⟨b5, rfl, H5⟩
   have Dc := V.kp (H5.f5.f5.f5.f5.f5)
   refine dK Dc (fun W hW => (Kp.h hW).right.f4.f4.f4.f4) ?_
   refine jW 10 O Dc (fun _ => gB (zl := [.int .i64 0, .map none]) (pl := [(0, 1), (1, 1)]) [_, _] dP zeroValue81 O (fun w => by kernel_rfl) O (.on (.on .nil)) O) ?_
   refine xO (i := 11) (j := 12) (by kernel_rfl) ?_ ?_
   ·skip
    refine jZ 11 O (by kernel_rfl) (jG (l := [_, _]) H5 O O) (jY O) ?_
    rintro _ w6 ⟨b6, rfl, H6⟩
    have yF := V.kp (H6.f6.f6.f6.f6.f6.f6)
    refine dK yF (fun W hW => (Kp.h hW).right.f5.f5.f5.f5.f5) ?_
    refine mP 12 O (lT (BR .i64) H6) ?_
    rintro _ w7 ⟨b7, rfl, H7⟩
    have yM := V.kp (H7.f7.f7.f7.f7.f7.f7.f7)
    refine dK yM (fun W hW => (Kp.h hW).right.f6.f6.f6.f6.f6.f6) ?_
    refine jW 18 O yM (fun _ => gB (zl := [.pointer none, .pointer none, .pointer none, .map none, .int .i64 0, .bool false, .int .i64 0, .int .i64 0, .int .i64 0, .int .i64 0, .bool false]) (pl := [(0, 1), (1, 1), (2, 1), (3, 1), (4, 1), (5, 1), (6, 1), (7, 1), (8, 1), (9, 1), (10, 1)]) [_, _, _, _, _, _, _, _, _, _, _] aA mF O (fun w => by kernel_rfl) O (.on (.on (.on (.on (.on (.zero (zs := [.bool false]) O (.zero (zs := [.int .i64 0]) O (.zero (zs := [.int .i64 0]) O (.zero (zs := [.int .i64 0]) O (.zero (zs := [.int .i64 0]) O (.zero (zs := [.bool false]) O .nil))))))))))) O) ?_
    refine kN 19 O yM O (fV 20 O yM 0 ah O aJ O ?_)
    refine eF 21 O (by kernel_rfl) (dh 0 (l' := [_, _, _, _, _, _, _, _, _, _, _, _, _, _, _, _, _, _, _, _, _, _, _, _, _, _, _, _, _, _, _, _, _, _]) (us := [_, _, _, _, _, _, _, _, _, _, _]) H7.f5 aJ O O O (aF (aF (aF (aF (aF (aF (aF (aF (aF (aF (aF bK))))))))))) O O) ?_
    rintro _ w8 H8
    have Lu := V.kp (H8.f7.f7.f7.f7.f7.f7.f7)
    refine iC Lu (by kernel_rfl) ?_
    refine qp (bg (aC (mQ O O (ny O O (bf 13 ah O aQ O (aI (dN 13 H8 aQ) ?_))))))
    rintro _ w9 H9
    refine dM O (bf 14 ah O aQ O (aI (dN 14 H9 aQ) ?_))
    rintro _ w10 sV
    refine dM O (bf 15 ah O aj O (aI (dN 15 sV aj) ?_))
    rintro _ I9 yt
    refine bY (gQ (.inr O) results47 ?_)
    have Qi := yt.f2
    have Qj := Qi.vI
    exact ⟨_, _, _, _, _, Qj.f5.f6.f3.f6.f6.f7.f7⟩
   ·skip
    refine jZ 12 O (by kernel_rfl) (lT (BR .i64) H5) (jY O) ?_
    rintro _ MK ⟨b14, rfl, yu⟩
    have ND := V.kp (yu.f6.f6.f6.f6.f6.f6)
    refine dK ND (fun W hW => (Kp.h hW).right.f5.f5.f5.f5.f5) ?_
    refine mP 11 O (jG (l := [_, _]) yu O O) ?_
    rintro _ SX ⟨b15, rfl, BA⟩
    have Ce := V.kp (BA.f7.f7.f7.f7.f7.f7.f7)
    refine dK Ce (fun W hW => (Kp.h hW).right.f6.f6.f6.f6.f6.f6) ?_
    refine jW 18 O Ce (fun _ => gB (zl := [.pointer none, .pointer none, .pointer none, .map none, .int .i64 0, .bool false, .int .i64 0, .int .i64 0, .int .i64 0, .int .i64 0, .bool false]) (pl := [(0, 1), (1, 1), (2, 1), (3, 1), (4, 1), (5, 1), (6, 1), (7, 1), (8, 1), (9, 1), (10, 1)]) [_, _, _, _, _, _, _, _, _, _, _] aA mF O (fun w => by kernel_rfl) O (.on (.on (.on (.on (.on (.zero (zs := [.bool false]) O (.zero (zs := [.int .i64 0]) O (.zero (zs := [.int .i64 0]) O (.zero (zs := [.int .i64 0]) O (.zero (zs := [.int .i64 0]) O (.zero (zs := [.bool false]) O .nil))))))))))) O) ?_
    refine kN 19 O Ce O (fV 20 O Ce 0 ah O aJ O ?_)
    refine eF 21 O (by kernel_rfl) (dh 0 (l' := [_, _, _, _, _, _, _, _, _, _, _, _, _, _, _, _, _, _, _, _, _, _, _, _, _, _, _, _, _, _, _, _, _, _]) (us := [_, _, _, _, _, _, _, _, _, _, _]) BA.f5 aJ O O O (aF (aF (aF (aF (aF (aF (aF (aF (aF (aF (aF bK))))))))))) O O) ?_
    rintro _ w16 uO
    have D7 := V.kp (uO.f7.f7.f7.f7.f7.f7.f7)
    refine iC D7 (by kernel_rfl) ?_
    refine qp (bg (aC (mQ O O (ny O O (bf 13 ah O aQ O (aI (dN 13 uO aQ) ?_))))))
    rintro _ Xc Dx
    refine dM O (bf 14 ah O aQ O (aI (dN 14 Dx aQ) ?_))
    rintro _ Xd Es
    refine dM O (bf 15 ah O aj O (aI (dN 15 Es aj) ?_))
    rintro _ Xf zO
    refine bY (gQ (.inr O) results47 ?_)
    have ab8 := zO.f3
    have ab9 := ab8.vI
    exact ⟨_, _, _, _, _, ab9.f5.f6.f3.f6.f6.f7.f7⟩
  ·skip
   refine jZ 12 O (by kernel_rfl) (lT (BR .i64) H4) (jY O) ?_
   rintro _ w22 ⟨b22, rfl, Gi⟩
   have Ed := V.kp (Gi.f5.f5.f5.f5.f5)
   refine dK Ed (fun W hW => (Kp.h hW).right.f4.f4.f4.f4) ?_
   refine mP 9 O (lT (BR .i64) Gi) ?_
   rintro _ UZ ⟨b23, rfl, xu⟩
   have Fq := V.kp (xu.f6.f6.f6.f6.f6.f6)
   refine dK Fq (fun W hW => (Kp.h hW).right.f5.f5.f5.f5.f5) ?_
   refine jW 10 O Fq (fun _ => gB (zl := [.int .i64 0, .map none]) (pl := [(0, 1), (1, 1)]) [_, _] dP zeroValue81 O (fun w => by kernel_rfl) O (.on (.on .nil)) O) ?_
   refine mP 11 O (jG (l := [_, _]) xu O O) ?_
   rintro _ w24 ⟨b24, rfl, JW⟩
   have Iw := V.kp (JW.f7.f7.f7.f7.f7.f7.f7)
   refine dK Iw (fun W hW => (Kp.h hW).right.f6.f6.f6.f6.f6.f6) ?_
   refine jW 18 O Iw (fun _ => gB (zl := [.pointer none, .pointer none, .pointer none, .map none, .int .i64 0, .bool false, .int .i64 0, .int .i64 0, .int .i64 0, .int .i64 0, .bool false]) (pl := [(0, 1), (1, 1), (2, 1), (3, 1), (4, 1), (5, 1), (6, 1), (7, 1), (8, 1), (9, 1), (10, 1)]) [_, _, _, _, _, _, _, _, _, _, _] aA mF O (fun w => by kernel_rfl) O (.on (.on (.on (.on (.on (.zero (zs := [.bool false]) O (.zero (zs := [.int .i64 0]) O (.zero (zs := [.int .i64 0]) O (.zero (zs := [.int .i64 0]) O (.zero (zs := [.int .i64 0]) O (.zero (zs := [.bool false]) O .nil))))))))))) O) ?_
   refine kN 19 O Iw O (fV 20 O Iw 0 ah O aJ O ?_)
   refine eF 21 O (by kernel_rfl) (dh 0 (l' := [_, _, _, _, _, _, _, _, _, _, _, _, _, _, _, _, _, _, _, _, _, _, _, _, _, _, _, _, _, _, _, _, _, _]) (us := [_, _, _, _, _, _, _, _, _, _, _]) JW.f5 aJ O O O (aF (aF (aF (aF (aF (aF (aF (aF (aF (aF (aF bK))))))))))) O O) ?_
   rintro _ w25 JX
   have J8 := V.kp (JX.f7.f7.f7.f7.f7.f7.f7)
   refine iC J8 (by kernel_rfl) ?_
   refine qp (bg (aC (mQ O O (ny O O (bf 13 ah O aQ O (aI (dN 13 JX aQ) ?_))))))
   rintro _ w26 Nk
   refine dM O (bf 14 ah O aQ O (aI (dN 14 Nk aQ) ?_))
   rintro _ w27 Jh
   refine dM O (bf 15 ah O aj O (aI (dN 15 Jh aj) ?_))
   rintro _ w28 U0
   refine bY (gQ (.inr O) results47 ?_)
   have ZH := U0.f4
   have ZI := ZH.vI
   exact ⟨_, _, _, _, _, ZI.f5.f6.f3.f6.f6.f7.f7⟩
 ·skip
  refine jZ 9 O (by kernel_rfl) (lT (BR .i64) XZ) (jY O) ?_
  rintro _ w31 ⟨b31, rfl, KZ⟩
  have Ob := V.kp (KZ.f4.right.f4.f4.f4.f4)
  refine dK Ob (fun W hW => (Kp.h hW).right.f3.f3.f3) ?_
  refine xO (i := 8) (j := 12) (by kernel_rfl) ?_ ?_
  ·skip
   refine jZ 8 O (by kernel_rfl) (tq (tu O func67 O O) (nN KZ.f4)) (jY O) ?_
   rintro _ Zg ⟨rfl, Ja⟩
   have Rl := V.kp (Ja.f5.f5.f5.f5.f5)
   refine dK Rl (fun W hW => (Kp.h hW).right.f4.f4.f4.f4) ?_
   refine jW 10 O Rl (fun _ => gB (zl := [.int .i64 0, .map none]) (pl := [(0, 1), (1, 1)]) [_, _] dP zeroValue81 O (fun w => by kernel_rfl) O (.on (.on .nil)) O) ?_
   refine xO (i := 11) (j := 12) (by kernel_rfl) ?_ ?_
   ·skip
    refine jZ 11 O (by kernel_rfl) (jG (l := [_, _]) Ja O O) (jY O) ?_
    rintro _ w33 ⟨b33, rfl, SY⟩
    have Rn := V.kp (SY.f6.f6.f6.f6.f6.f6)
    refine dK Rn (fun W hW => (Kp.h hW).right.f5.f5.f5.f5.f5) ?_
    refine mP 12 O (lT (BR .i64) SY) ?_
    rintro _ w34 ⟨b34, rfl, VH⟩
    have J9 := V.kp (VH.f7.f7.f7.f7.f7.f7.f7)
    refine dK J9 (fun W hW => (Kp.h hW).right.f6.f6.f6.f6.f6.f6) ?_
    refine jW 18 O J9 (fun _ => gB (zl := [.pointer none, .pointer none, .pointer none, .map none, .int .i64 0, .bool false, .int .i64 0, .int .i64 0, .int .i64 0, .int .i64 0, .bool false]) (pl := [(0, 1), (1, 1), (2, 1), (3, 1), (4, 1), (5, 1), (6, 1), (7, 1), (8, 1), (9, 1), (10, 1)]) [_, _, _, _, _, _, _, _, _, _, _] aA mF O (fun w => by kernel_rfl) O (.on (.on (.on (.on (.on (.zero (zs := [.bool false]) O (.zero (zs := [.int .i64 0]) O (.zero (zs := [.int .i64 0]) O (.zero (zs := [.int .i64 0]) O (.zero (zs := [.int .i64 0]) O (.zero (zs := [.bool false]) O .nil))))))))))) O) ?_
    refine kN 19 O J9 O (fV 20 O J9 0 ah O aJ O ?_)
    refine eF 21 O (by kernel_rfl) (dh 0 (l' := [_, _, _, _, _, _, _, _, _, _, _, _, _, _, _, _, _, _, _, _, _, _, _, _, _, _, _, _, _, _, _, _, _, _]) (us := [_, _, _, _, _, _, _, _, _, _, _]) VH.f5 aJ O O O (aF (aF (aF (aF (aF (aF (aF (aF (aF (aF (aF bK))))))))))) O O) ?_
    rintro _ w35 ZJ
    have VI := V.kp (ZJ.f7.f7.f7.f7.f7.f7.f7)
    refine iC VI (by kernel_rfl) ?_
    refine qp (bg (aC (mQ O O (ny O O (bf 13 ah O aQ O (aI (dN 13 ZJ aQ) ?_))))))
    rintro _ w36 H36
    refine dM O (bf 14 ah O aQ O (aI (dN 14 H36 aQ) ?_))
    rintro _ w37 H37
    refine dM O (bf 15 ah O aj O (aI (dN 15 H37 aj) ?_))
    rintro _ w38 Qk
    refine bY (gQ (.inr O) results47 ?_)
    have aca := Qk.f2
    have acb := aca.vI
    exact ⟨_, _, _, _, _, acb.f4.f6.f3.f6.f6.f7.f7⟩
   ·skip
    refine jZ 12 O (by kernel_rfl) (lT (BR .i64) Ja) (jY O) ?_
    rintro _ w41 ⟨b41, rfl, X0⟩
    have VJ := V.kp (X0.f6.f6.f6.f6.f6.f6)
    refine dK VJ (fun W hW => (Kp.h hW).right.f5.f5.f5.f5.f5) ?_
    refine mP 11 O (jG (l := [_, _]) X0 O O) ?_
    rintro _ w42 ⟨b42, rfl, ZK⟩
    have Ko := V.kp (ZK.f7.f7.f7.f7.f7.f7.f7)
    refine dK Ko (fun W hW => (Kp.h hW).right.f6.f6.f6.f6.f6.f6) ?_
    refine jW 18 O Ko (fun _ => gB (zl := [.pointer none, .pointer none, .pointer none, .map none, .int .i64 0, .bool false, .int .i64 0, .int .i64 0, .int .i64 0, .int .i64 0, .bool false]) (pl := [(0, 1), (1, 1), (2, 1), (3, 1), (4, 1), (5, 1), (6, 1), (7, 1), (8, 1), (9, 1), (10, 1)]) [_, _, _, _, _, _, _, _, _, _, _] aA mF O (fun w => by kernel_rfl) O (.on (.on (.on (.on (.on (.zero (zs := [.bool false]) O (.zero (zs := [.int .i64 0]) O (.zero (zs := [.int .i64 0]) O (.zero (zs := [.int .i64 0]) O (.zero (zs := [.int .i64 0]) O (.zero (zs := [.bool false]) O .nil))))))))))) O) ?_
    refine kN 19 O Ko O (fV 20 O Ko 0 ah O aJ O ?_)
    refine eF 21 O (by kernel_rfl) (dh 0 (l' := [_, _, _, _, _, _, _, _, _, _, _, _, _, _, _, _, _, _, _, _, _, _, _, _, _, _, _, _, _, _, _, _, _, _]) (us := [_, _, _, _, _, _, _, _, _, _, _]) ZK.f5 aJ O O O (aF (aF (aF (aF (aF (aF (aF (aF (aF (aF (aF bK))))))))))) O O) ?_
    rintro _ w43 ZL
    have VK := V.kp (ZL.f7.f7.f7.f7.f7.f7.f7)
    refine iC VK (by kernel_rfl) ?_
    refine qp (bg (aC (mQ O O (ny O O (bf 13 ah O aQ O (aI (dN 13 ZL aQ) ?_))))))
    rintro _ w44 YI
    refine dM O (bf 14 ah O aQ O (aI (dN 14 YI aQ) ?_))
    rintro _ w45 O9
    refine dM O (bf 15 ah O aj O (aI (dN 15 O9 aj) ?_))
    rintro _ w46 H46
    refine bY (gQ (.inr O) results47 ?_)
    have acd := H46.f3
    have ace := acd.vI
    exact ⟨_, _, _, _, _, ace.f4.f6.f3.f6.f6.f7.f7⟩
  ·skip
   refine jZ 12 O (by kernel_rfl) (lT (BR .i64) KZ) (jY O) ?_
   rintro _ w49 ⟨b49, rfl, H49⟩
   have aa0 := V.kp (H49.f5.right.f5.f5.f5.f5.f5)
   refine dK aa0 (fun W hW => (Kp.h hW).right.f4.f4.f4.f4) ?_
   refine mP 8 O (wu O func67 (nN H49.f5)) ?_
   rintro _ w50 ⟨rfl, H50⟩
   have YJ := V.kp (H50.f6.f6.f6.f6.f6.f6)
   refine dK YJ (fun W hW => (Kp.h hW).right.f5.f5.f5.f5.f5) ?_
   refine jW 10 O YJ (fun _ => gB (zl := [.int .i64 0, .map none]) (pl := [(0, 1), (1, 1)]) [_, _] dP zeroValue81 O (fun w => by kernel_rfl) O (.on (.on .nil)) O) ?_
   refine mP 11 O (jG (l := [_, _]) H50 O O) ?_
   rintro _ w51 ⟨b51, rfl, ZM⟩
   have Ro := V.kp (ZM.f7.f7.f7.f7.f7.f7.f7)
   refine dK Ro (fun W hW => (Kp.h hW).right.f6.f6.f6.f6.f6.f6) ?_
   refine jW 18 O Ro (fun _ => gB (zl := [.pointer none, .pointer none, .pointer none, .map none, .int .i64 0, .bool false, .int .i64 0, .int .i64 0, .int .i64 0, .int .i64 0, .bool false]) (pl := [(0, 1), (1, 1), (2, 1), (3, 1), (4, 1), (5, 1), (6, 1), (7, 1), (8, 1), (9, 1), (10, 1)]) [_, _, _, _, _, _, _, _, _, _, _] aA mF O (fun w => by kernel_rfl) O (.on (.on (.on (.on (.on (.zero (zs := [.bool false]) O (.zero (zs := [.int .i64 0]) O (.zero (zs := [.int .i64 0]) O (.zero (zs := [.int .i64 0]) O (.zero (zs := [.int .i64 0]) O (.zero (zs := [.bool false]) O .nil))))))))))) O) ?_
   refine kN 19 O Ro O (fV 20 O Ro 0 ah O aJ O ?_)
   refine eF 21 O (by kernel_rfl) (dh 0 (l' := [_, _, _, _, _, _, _, _, _, _, _, _, _, _, _, _, _, _, _, _, _, _, _, _, _, _, _, _, _, _, _, _, _, _]) (us := [_, _, _, _, _, _, _, _, _, _, _]) ZM.f5 aJ O O O (aF (aF (aF (aF (aF (aF (aF (aF (aF (aF (aF bK))))))))))) O O) ?_
   rintro _ w52 YK
   have aa1 := V.kp (YK.f7.f7.f7.f7.f7.f7.f7)
   refine iC aa1 (by kernel_rfl) ?_
   refine qp (bg (aC (mQ O O (ny O O (bf 13 ah O aQ O (aI (dN 13 YK aQ) ?_))))))
   rintro _ w53 H53
   refine dM O (bf 14 ah O aQ O (aI (dN 14 H53 aQ) ?_))
   rintro _ w54 H54
   refine dM O (bf 15 ah O aj O (aI (dN 15 H54 aj) ?_))
   rintro _ w55 H55
   refine bY (gQ (.inr O) results47 ?_)
   have acf := H55.f4
   have acg := acf.vI
   exact ⟨_, _, _, _, _, acg.f4.f6.f3.f6.f6.f7.f7⟩
 ·skip
  refine jZ 12 O (by kernel_rfl) (lT (BR .i64) XZ) (jY O) ?_
  rintro _ w58 ⟨b58, rfl, X3⟩
  have aa2 := V.kp (X3.f4.right.f4.f4.f4.f4)
  refine dK aa2 (fun W hW => (Kp.h hW).right.f3.f3.f3) ?_
  refine xO (i := 8) (j := 9) (by kernel_rfl) ?_ ?_
  ·skip
   refine jZ 8 O (by kernel_rfl) (tq (tu O func67 O O) (nN X3.f4)) (jY O) ?_
   rintro _ w59 ⟨rfl, H59⟩
   have aa3 := V.kp (H59.f5.f5.f5.f5.f5)
   refine dK aa3 (fun W hW => (Kp.h hW).right.f4.f4.f4.f4) ?_
   refine mP 9 O (lT (BR .i64) H59) ?_
   rintro _ w60 ⟨b60, rfl, H60⟩
   have YL := V.kp (H60.f6.f6.f6.f6.f6.f6)
   refine dK YL (fun W hW => (Kp.h hW).right.f5.f5.f5.f5.f5) ?_
   refine jW 10 O YL (fun _ => gB (zl := [.int .i64 0, .map none]) (pl := [(0, 1), (1, 1)]) [_, _] dP zeroValue81 O (fun w => by kernel_rfl) O (.on (.on .nil)) O) ?_
   refine mP 11 O (jG (l := [_, _]) H60 O O) ?_
   rintro _ w61 ⟨b61, rfl, H61⟩
   have Rq := V.kp (H61.f7.f7.f7.f7.f7.f7.f7)
   refine dK Rq (fun W hW => (Kp.h hW).right.f6.f6.f6.f6.f6.f6) ?_
   refine jW 18 O Rq (fun _ => gB (zl := [.pointer none, .pointer none, .pointer none, .map none, .int .i64 0, .bool false, .int .i64 0, .int .i64 0, .int .i64 0, .int .i64 0, .bool false]) (pl := [(0, 1), (1, 1), (2, 1), (3, 1), (4, 1), (5, 1), (6, 1), (7, 1), (8, 1), (9, 1), (10, 1)]) [_, _, _, _, _, _, _, _, _, _, _] aA mF O (fun w => by kernel_rfl) O (.on (.on (.on (.on (.on (.zero (zs := [.bool false]) O (.zero (zs := [.int .i64 0]) O (.zero (zs := [.int .i64 0]) O (.zero (zs := [.int .i64 0]) O (.zero (zs := [.int .i64 0]) O (.zero (zs := [.bool false]) O .nil))))))))))) O) ?_
   refine kN 19 O Rq O (fV 20 O Rq 0 ah O aJ O ?_)
   refine eF 21 O (by kernel_rfl) (dh 0 (l' := [_, _, _, _, _, _, _, _, _, _, _, _, _, _, _, _, _, _, _, _, _, _, _, _, _, _, _, _, _, _, _, _, _, _]) (us := [_, _, _, _, _, _, _, _, _, _, _]) H61.f5 aJ O O O (aF (aF (aF (aF (aF (aF (aF (aF (aF (aF (aF bK))))))))))) O O) ?_
   rintro _ w62 H62
   have aa4 := V.kp (H62.f7.f7.f7.f7.f7.f7.f7)
   refine iC aa4 (by kernel_rfl) ?_
   refine qp (bg (aC (mQ O O (ny O O (bf 13 ah O aQ O (aI (dN 13 H62 aQ) ?_))))))
   rintro _ w63 H63
   refine dM O (bf 14 ah O aQ O (aI (dN 14 H63 aQ) ?_))
   rintro _ w64 H64
   refine dM O (bf 15 ah O aj O (aI (dN 15 H64 aj) ?_))
   rintro _ w65 H65
   refine bY (gQ (.inr O) results47 ?_)
   have ach := H65.f5
   have aci := ach.vI
   exact ⟨_, _, _, _, _, aci.f5.f6.f3.f6.f6.f7.f7⟩
  ·skip
   refine jZ 9 O (by kernel_rfl) (lT (BR .i64) X3) (jY O) ?_
   rintro _ w68 ⟨b68, rfl, H68⟩
   have aa5 := V.kp (H68.f5.right.f5.f5.f5.f5.f5)
   refine dK aa5 (fun W hW => (Kp.h hW).right.f4.f4.f4.f4) ?_
   refine mP 8 O (wu O func67 (nN H68.f5)) ?_
   rintro _ w69 ⟨rfl, H69⟩
   have YM := V.kp (H69.f6.f6.f6.f6.f6.f6)
   refine dK YM (fun W hW => (Kp.h hW).right.f5.f5.f5.f5.f5) ?_
   refine jW 10 O YM (fun _ => gB (zl := [.int .i64 0, .map none]) (pl := [(0, 1), (1, 1)]) [_, _] dP zeroValue81 O (fun w => by kernel_rfl) O (.on (.on .nil)) O) ?_
   refine mP 11 O (jG (l := [_, _]) H69 O O) ?_
   rintro _ w70 ⟨b70, rfl, H70⟩
   have Rt := V.kp (H70.f7.f7.f7.f7.f7.f7.f7)
   refine dK Rt (fun W hW => (Kp.h hW).right.f6.f6.f6.f6.f6.f6) ?_
   refine jW 18 O Rt (fun _ => gB (zl := [.pointer none, .pointer none, .pointer none, .map none, .int .i64 0, .bool false, .int .i64 0, .int .i64 0, .int .i64 0, .int .i64 0, .bool false]) (pl := [(0, 1), (1, 1), (2, 1), (3, 1), (4, 1), (5, 1), (6, 1), (7, 1), (8, 1), (9, 1), (10, 1)]) [_, _, _, _, _, _, _, _, _, _, _] aA mF O (fun w => by kernel_rfl) O (.on (.on (.on (.on (.on (.zero (zs := [.bool false]) O (.zero (zs := [.int .i64 0]) O (.zero (zs := [.int .i64 0]) O (.zero (zs := [.int .i64 0]) O (.zero (zs := [.int .i64 0]) O (.zero (zs := [.bool false]) O .nil))))))))))) O) ?_
   refine kN 19 O Rt O (fV 20 O Rt 0 ah O aJ O ?_)
   refine eF 21 O (by kernel_rfl) (dh 0 (l' := [_, _, _, _, _, _, _, _, _, _, _, _, _, _, _, _, _, _, _, _, _, _, _, _, _, _, _, _, _, _, _, _, _, _]) (us := [_, _, _, _, _, _, _, _, _, _, _]) H70.f5 aJ O O O (aF (aF (aF (aF (aF (aF (aF (aF (aF (aF (aF bK))))))))))) O O) ?_
   rintro _ w71 H71
   have aa6 := V.kp (H71.f7.f7.f7.f7.f7.f7.f7)
   refine iC aa6 (by kernel_rfl) ?_
   refine qp (bg (aC (mQ O O (ny O O (bf 13 ah O aQ O (aI (dN 13 H71 aQ) ?_))))))
   rintro _ w72 H72
   refine dM O (bf 14 ah O aQ O (aI (dN 14 H72 aQ) ?_))
   rintro _ w73 H73
   refine dM O (bf 15 ah O aj O (aI (dN 15 H73 aj) ?_))
   rintro _ w74 H74
   refine bY (gQ (.inr O) results47 ?_)
   have acj := H74.f5
   have ack := acj.vI
   exact ⟨_, _, _, _, _, ack.f4.f6.f3.f6.f6.f7.f7⟩
theorem V.Dl {c : pX} {u : List Value} (H : V w0 w F) (hu : (u.all fun x => x.oneCell') = true) : V w0 w (vH false c u • F) := by
  unfold vH
  rw [if_neg (by decide)]
  exact H.nH hu
theorem yS {inn : Bool} {c : pX} {u : List Value} (H : V w0 w (vH inn c u • F)) : (u.all fun x => x.oneCell') = true := by
  unfold vH at H
  cases inn with
  | true =>
    rw [if_pos rfl] at H
    obtain ⟨⟨pb, pr, pw, pt, pm⟩, H⟩ := H.qP
    obtain ⟨h, _⟩ := H.flat.fact
    rw [h]; rfl
  | false =>
    rw [if_neg (by decide)] at H
    exact H.fact.1
theorem V.ZN {pb pr pw pt pm : Nat} {c : pX} (H : V w0 w (fF pb c.L c.pt c.mark • dL pr c.E c.at_ • dR pw (.cells #[.int .i64 c.place, .map (some pt)] 81 (0, 0)) • iI qH pt (qI c.tx) • vW pm c.un • F)) : V w0 w (vH true c (N7 pb pr pw pm c) • F) := by
  unfold vH
  rw [if_pos rfl]
  exact V.jQ (pb, pr, pw, pt, pm) (V.deep (V.nH rfl (H.of_eq (by unfold Qg; simp only [dI]))))
theorem V.was {c : pX} {u : List Value} (H : V w0 w (vH true c u • F)) : ∃ pb pr pw pt pm, u = N7 pb pr pw pm c ∧ V w0 w (fF pb c.L c.pt c.mark • dL pr c.E c.at_ • dR pw (.cells #[.int .i64 c.place, .map (some pt)] 81 (0, 0)) • iI qH pt (qI c.tx) • vW pm c.un • F) := by
  unfold vH at H
  rw [if_pos rfl] at H
  obtain ⟨⟨pb, pr, pw, pt, pm⟩, H⟩ := H.qP
  obtain ⟨h, H⟩ := H.flat.fact
  exact ⟨pb, pr, pw, pt, pm, h, H.of_eq (by unfold Qg; simp only [dI])⟩
theorem V.Iy {pb pr pw pt pm ph bl : Nat} {u0 u1 u2 u3 u4 u5 u6 u7 u8 u9 ua : Value} (h1 : oV s) (hp : s.put = []) (H : V w0 w (dR e (.cells (.pointer (some ⟨pb, 0, none⟩) :: .pointer (some ⟨pr, 0, none⟩) :: .pointer (some ⟨pw, 0, none⟩) :: .map (some pm) :: .int .i64 s.c.mode :: .bool s.c.over :: .int .i64 s.c.last :: .int .i64 s.c.fr :: .int .i64 s.c.to :: .int .i64 s.c.res :: .bool s.c.run :: .pointer (some ⟨ph, 0, none⟩) :: .pointer (some ⟨bl, 0, none⟩) :: .bool s.given :: .bool s.minus :: .int .i64 s.arg :: .bool s.inn :: u0 :: u1 :: u2 :: u3 :: u4 :: u5 :: u6 :: u7 :: u8 :: u9 :: ua :: .int .i64 s.cls :: .bool s.killed :: .bool s.lW :: .bool s.argues :: .bool s.whole :: .slice none 0 0 :: []).toArray 69 (0, 0)) • fF pb s.c.L s.c.pt s.c.mark • dL pr s.c.E s.c.at_ • dR pw (.cells #[.int .i64 s.c.place, .map (some pt)] 81 (0, 0)) • iI qH pt (qI s.c.tx) • vW pm s.c.un • gK ph s.hl s.base s.most • dR bl (.cells #[.int .i64 s.kE] 97 (0, 0)) • vH s.inn s.was [u0, u1, u2, u3, u4, u5, u6, u7, u8, u9, ua] • F)) : V w0 w (eH e s • F) := by
  refine V.eY (pb := pb) (pr := pr) (pw := pw) (pt := pt) (pm := pm) (ph := ph) (bl := bl) (u0 := u0) (u1 := u1) (u2 := u2) (u3 := u3) (u4 := u4) (u5 := u5) (u6 := u6) (u7 := u7) (u8 := u8) (u9 := u9) (ua := ua) (pv := .slice none 0 0) (es := []) h1 (by rw [hp]; rfl) ?_
  rw [hp]
  exact (H.uS none).of_eq (by unfold Jt; ac_rfl)
theorem V.Ql {pb pr pw pt pm ph bl : Nat} {u0 u1 u2 u3 u4 u5 u6 u7 u8 u9 ua : Value} (h1 : oV s) (hp : s.put = []) (hi : s.inn = false) (H : V w0 w (dR e (.cells (.pointer (some ⟨pb, 0, none⟩) :: .pointer (some ⟨pr, 0, none⟩) :: .pointer (some ⟨pw, 0, none⟩) :: .map (some pm) :: .int .i64 s.c.mode :: .bool s.c.over :: .int .i64 s.c.last :: .int .i64 s.c.fr :: .int .i64 s.c.to :: .int .i64 s.c.res :: .bool s.c.run :: .pointer (some ⟨ph, 0, none⟩) :: .pointer (some ⟨bl, 0, none⟩) :: .bool s.given :: .bool s.minus :: .int .i64 s.arg :: .bool false :: u0 :: u1 :: u2 :: u3 :: u4 :: u5 :: u6 :: u7 :: u8 :: u9 :: ua :: .int .i64 s.cls :: .bool s.killed :: .bool s.lW :: .bool s.argues :: .bool s.whole :: .slice none 0 0 :: []).toArray 69 (0, 0)) • fF pb s.c.L s.c.pt s.c.mark • dL pr s.c.E s.c.at_ • dR pw (.cells #[.int .i64 s.c.place, .map (some pt)] 81 (0, 0)) • iI qH pt (qI s.c.tx) • vW pm s.c.un • gK ph s.hl s.base s.most • dR bl (.cells #[.int .i64 s.kE] 97 (0, 0)) • F)) (hu : ([u0, u1, u2, u3, u4, u5, u6, u7, u8, u9, ua].all fun x => x.oneCell') = true := by rfl) : V w0 w (eH e s • F) := by
  refine V.Iy (pb := pb) (pr := pr) (pw := pw) (pt := pt) (pm := pm) (ph := ph) (bl := bl) (u0 := u0) (u1 := u1) (u2 := u2) (u3 := u3) (u4 := u4) (u5 := u5) (u6 := u6) (u7 := u7) (u8 := u8) (u9 := u9) (ua := ua) h1 hp ?_
  rw [hi]
  exact (H.Dl (c := s.was) (u := [u0, u1, u2, u3, u4, u5, u6, u7, u8, u9, ua]) hu).of_eq (by ac_rfl)
theorem V.VL {pb pr pw pt pm ph bl : Nat} {u0 u1 u2 u3 u4 u5 u6 u7 u8 u9 ua : Value} {pv : Value} {es : List fD} (h1 : oV s) (h2 : es.map fD.says = s.put) (H : V w0 w (Jt pv es • dR e (.cells (.pointer (some ⟨pb, 0, none⟩) :: .pointer (some ⟨pr, 0, none⟩) :: .pointer (some ⟨pw, 0, none⟩) :: .map (some pm) :: .int .i64 s.c.mode :: .bool s.c.over :: .int .i64 s.c.last :: .int .i64 s.c.fr :: .int .i64 s.c.to :: .int .i64 s.c.res :: .bool s.c.run :: .pointer (some ⟨ph, 0, none⟩) :: .pointer (some ⟨bl, 0, none⟩) :: .bool s.given :: .bool s.minus :: .int .i64 s.arg :: .bool s.inn :: u0 :: u1 :: u2 :: u3 :: u4 :: u5 :: u6 :: u7 :: u8 :: u9 :: ua :: .int .i64 s.cls :: .bool s.killed :: .bool s.lW :: .bool s.argues :: .bool s.whole :: pv :: []).toArray 69 (0, 0)) • fF pb s.c.L s.c.pt s.c.mark • dL pr s.c.E s.c.at_ • dR pw (.cells #[.int .i64 s.c.place, .map (some pt)] 81 (0, 0)) • iI qH pt (qI s.c.tx) • vW pm s.c.un • gK ph s.hl s.base s.most • dR bl (.cells #[.int .i64 s.kE] 97 (0, 0)) • vH s.inn s.was [u0, u1, u2, u3, u4, u5, u6, u7, u8, u9, ua] • F)) : V w0 w (eH e s • F) := by
  refine V.eY (pb := pb) (pr := pr) (pw := pw) (pt := pt) (pm := pm) (ph := ph) (bl := bl) (u0 := u0) (u1 := u1) (u2 := u2) (u3 := u3) (u4 := u4) (u5 := u5) (u6 := u6) (u7 := u7) (u8 := u8) (u9 := u9) (ua := ua) (pv := pv) (es := es) h1 h2 ?_
  have hl : s.put.length = es.length := by rw [← h2]; simp
  rw [hl]
  exact H.of_eq (by unfold Jt; ac_rfl)
theorem VN (hl : List qE) (l : List Int) (E : List (List Int)) (a : Nat) (m : Int) : LU hl (pX.fresh l E a hl.length m) := ⟨by simp [pX.fresh], by simp [pX.fresh], by simp [pX.fresh]⟩
theorem ZO (hl : List qE) (base most : Int) : oV (aY.new hl base most) :=
  ⟨VN _ _ _ _ _, by simp [aY.new], by simp [aY.new], by simp [aY.new], by simp [aY.new, aY.here, pX.fresh, gI], by simp [aY.new, pX.fresh]⟩
theorem Iz (H : V w0 w (gK h hl base most • F)) : iU prog 13 #[.pointer (some ⟨h, 0, none⟩)] w fun v w' => ∃ e, v = .tuple #[.pointer (some ⟨e, 0, none⟩), .int .i64 0] ∧ V w0 w' (eH e (aY.new hl base most) • gK h hl base most • F) := by
  refine ji func13 ntmps13 ?_
  refine jg (lU O (tJ O (bM O (dZ O func45 (AP H) ?_))))
  rintro _ w1 ⟨q1, rfl, H1⟩
  refine aV (kV lC O O) (iT (I8 O (fun h1 => ?_)))
  (try simp only [aH] at h1)
  refine iq (jg (aV (gB (zl := [.int .i64 0]) (pl := [(0, 0), (0, 0), (0, 1)]) [_] underlying97 zeroValue97 O (fun w => by kernel_rfl) O (.zero (zs := []) O (.zero (zs := []) O (.zero (zs := [.int .i64 0]) O .nil))) O) (jL (jG (l := [_]) H1 O O) ?_)))
  rintro _ w2 ⟨b2, rfl, H2⟩
  refine aV (gB (zl := [.pointer none, .pointer none, .pointer none, .map none, .int .i64 0, .bool false, .int .i64 0, .int .i64 0, .int .i64 0, .int .i64 0, .bool false, .pointer none, .pointer none, .bool false, .bool false, .int .i64 0, .bool false, .pointer none, .pointer none, .pointer none, .map none, .int .i64 0, .bool false, .int .i64 0, .int .i64 0, .int .i64 0, .int .i64 0, .bool false, .int .i64 0, .bool false, .bool false, .bool false, .bool false, .slice none 0 0]) (pl := [(0, 11), (11, 1), (12, 1), (13, 1), (14, 1), (15, 1), (16, 1), (17, 11), (28, 1), (29, 1), (30, 1), (31, 1), (32, 1), (33, 1)]) [_, _, _, _, _, _, _, _, _, _, _, _, _, _, _, _, _, _, _, _, _, _, _, _, _, _, _, _, _, _, _, _, _, _] ah zeroValue69 O (fun w => by kernel_rfl) O (.zero (zs := [.pointer none, .pointer none, .pointer none, .map none, .int .i64 0, .bool false, .int .i64 0, .int .i64 0, .int .i64 0, .int .i64 0, .bool false]) O (.zero (zs := [.pointer none]) O (.on (.zero (zs := [.bool false]) O (.zero (zs := [.bool false]) O (.zero (zs := [.int .i64 0]) O (.zero (zs := [.bool false]) O (.zero (zs := [.pointer none, .pointer none, .pointer none, .map none, .int .i64 0, .bool false, .int .i64 0, .int .i64 0, .int .i64 0, .int .i64 0, .bool false]) O (.zero (zs := [.int .i64 0]) O (.zero (zs := [.bool false]) O (.zero (zs := [.bool false]) O (.zero (zs := [.bool false]) O (.zero (zs := [.bool false]) O (.zero (zs := [.slice none 0 0]) O .nil)))))))))))))) O) ?_
  refine jL (jG (l := [_, _, _, _, _, _, _, _, _, _, _, _, _, _, _, _, _, _, _, _, _, _, _, _, _, _, _, _, _, _, _, _, _, _]) H2 O O) ?_
  rintro _ w3 ⟨b3, rfl, H3⟩
  refine gY O (bM O (dZ O func46 (Le H3) ?_))
  rintro _ w4 ⟨p4, rfl, H4⟩
  refine dM O (bf 0 ah O aJ O (bf 1 aA O sizeOf61 O (aI (dN 1 H4.f2 sizeOf61) ?_)))
  rintro _ w5 H5
  refine sU O (cZ O (dZ O func47 (Jw (E := []) (a := 0) H5.f4.right.f3.f3.f4.f4 (l := []) (fun W _ => mM.nil W _ none 0 (by decide)) (by decide)) ?_))
  rintro _ w6 ⟨qb, qw, qt, qm, qh, H6⟩
  refine sU O (lU O (iW O (DL results13 O O ?_)))
  exact ⟨_, O, V.Ql (s := aY.new hl base most) (ZO _ _ _) O O H6.f7.f9.f8.f8.f8.f8.f9.f9.f9⟩
end
section
variable {w0 w : World} {F : HP} {e p h pr : Nat} {s : aY} {hl : List qE} {base most m : Int} {v : Value} {l : List Int}
theorem EM (h : s.inn = false) : s.bZ = { s with inn := true, was := s.c, cls := 0, killed := false, lW := false, argues := false, whole := true, put := [] } := by unfold aY.bZ; rw [if_neg (by simp [h])]
theorem Qm (h : s.inn = true) : s.bZ = s := by unfold aY.bZ; rw [if_pos h]
theorem Ru {G : List (List gV)} {N : List gV} (h : gI G N ≤ 16384) : gI G [] ≤ 16384 := by unfold gI at *; simp at *; omega
theorem VO (h : oV s) (hi : s.inn = false) : oV s.bZ := by
  rw [EM hi]
  obtain ⟨h1, h2, h3, h4, h5, h6⟩ := h
  exact ⟨h1, fun _ => ⟨h1, Ru h5, h6⟩, h3, by simp, Ru h5, h6⟩
theorem zB (H : V w0 w (eH e s • F)) : iU prog 6 #[.pointer (some ⟨e, 0, none⟩)] w fun v w' => v = .int .i64 s.Ih ∧ V w0 w' (eH e s.bZ • F) := by
 refine ji func6 ntmps6 ?_
 refine lZ O (aO (bn (bM O (dZ O func17 (Fz H) ?_))))
 rintro _ _ ⟨rfl, rfl⟩
 refine gY O (vO (aO ?_))
 obtain ⟨qV, rC, rD, rZ, rE, rF, rG, rH, qA, oZ, o7, o8, o9, pq, pz, pF, pG, pI, pJ, pK, dV, bP, jh, dY⟩ := (H).Dy
 refine aC (ny O O (bf 16 ah O aQ O (dQ bW O (dY).get.2 O (gY O (bI O (fun h1 => ?_) (fun h1 => ?_))))))
 ·(try simp only [aH] at h1)
  have hin := h1
  refine lF O (bD (aK (fB results6 O ?_)))
  exact ⟨by unfold aY.Ih; rw [if_pos hin], by rw [Qm hin]; exact V.eY dV bP dY.f11.f11.f11.f11.f11.f11.f11.f11.f11.f11.f11⟩
 ·(try simp only [aH] at h1)
  have hin := h1
  refine fU (aN (bg (bM O (mQ O O (dM O (bf 0 ah O aJ O (aV (uV 0 (xs := [_, _, _, _, _, _, _, _, _, _, _]) aA O aJ O O (dY).get.2 O) (dZ O func18 (VD dY.f6.f6.f6.f6.f6) ?_))))))))
  rintro _ w3 ⟨qb3, qr3, qw3, qt3, qm3, rfl, H3⟩
  refine dM O (bf 16 ah O aQ O (aI (dN 16 H3.f11 aQ) ?_))
  rintro _ w4 H4
  refine dM O (bf 17 ah O aJ O (aI (dh 17 (l' := [_, _, _, _, _, _, _, _, _, _, _, _, _, _, _, _, _, _, _, _, _, _, _, _, _, _, _, _, _, _, _, _, _, _]) (us := [_, _, _, _, _, _, _, _, _, _, _]) H4 aJ O O O (aF (aF (aF (aF (aF (aF (aF (aF (aF (aF (aF bK))))))))))) O O) ?_))
  rintro _ w5 H5
  refine sU O (mQ O O (mQ O O (ny O O (bf 28 ah O aj O (aI (dN 28 H5 aj) ?_)))))
  rintro _ w6 H6
  refine dM O (bf 29 ah O aQ O (aI (dN 29 H6 aQ) ?_))
  rintro _ w7 H7
  refine dM O (bf 30 ah O aQ O (aI (dN 30 H7 aQ) ?_))
  rintro _ w8 H8
  refine dM O (bf 31 ah O aQ O (aI (dN 31 H8 aQ) ?_))
  rintro _ w9 H9
  refine dM O (bf 32 ah O aQ O (aI (dN 32 H9 aQ) ?_))
  rintro _ w10 sV
  refine dM O (bf 33 ah O bV O (aI (dN 33 sV bV) ?_))
  rintro _ I9 yt
  refine iT (lF O (fB results6 O ?_))
  have Qi := yt.f6.f6.f6.f6.f6
  have Qj := V.ZN (c := s.c) Qi
  exact ⟨by unfold aY.Ih; rw [if_neg (by simp [hin])], by rw [EM hin]; exact V.Iy (EM hin ▸ VO dV hin) O Qj.f10.right.f10.right.f10.right.f9.f9.f9.f9.f9.f9.f9.f9⟩
end
section
variable {w0 w : World} {F : HP} {e p h pr : Nat} {s : aY} {x : Int} {b : Bool}
theorem uG (h : oV s) (L : List Int) (pt mk : Int) : oV (s.lJ L pt mk) := h
theorem Oc (H : V w0 w (eH e s • F)) : iU prog 26 #[.pointer (some ⟨e, 0, none⟩), .int .i64 x] w fun v w' => v = .int .i64 (s.Q8 x) ∧ V w0 w' (eH e (s.yQ x) • F) := by
 refine oP func26 ntmps26 ?_
 refine lZ O (aO (bM O (dZ O func32 (jm H) ?_)))
 rintro _ _ ⟨rfl, rfl⟩
 refine gY O (bM O (aV (dO O O) (kK O (fun h1 => ?_) (fun h1 => ?_))))
 ·(try simp only [aH] at h1)
  obtain ⟨hin, hpe⟩ := rQ h1
  refine bM O (iW O (aK (fB results26 O ?_)))
  rw [hpe]
  exact ⟨by simp [aY.Q8, aY.yQ, hin], by rw [show s.yQ x = s from by simp [aY.Q8, aY.yQ, hin]]; exact H⟩
 ·(try simp only [aH] at h1)
  have hin := oW h1
  refine iq (aO ?_)
  obtain ⟨qV, rC, rD, rZ, rE, rF, rG, rH, qA, oZ, o7, o8, o9, pq, pz, pF, pG, pI, pJ, pK, dV, bP, jh, dY⟩ := (H).Dy
  refine aC (ny O O (bf 0 ah O aJ O (bf 0 aA O iD O (dQ dU O (dY).get.2 O (cZ O (dZ O func63 (La dY.f2) ?_))))))
  rintro _ w3 ⟨rfl, H3⟩
  refine iW O (fB results26 O ?_)
  exact ⟨by simp [aY.Q8, hin], by rw [show s.yQ x = s.lJ s.c.L (Yx s.c.L.length s.c.pt x) s.c.mark from by simp [aY.yQ, hin]]; exact V.eY (uG dV _ _ _) bP H3.f11.f11.f11.f11.f11.f11.f11.f11.f11.f10.f11⟩
theorem Oe (H : V w0 w (eH e s • F)) : iU prog 27 #[.pointer (some ⟨e, 0, none⟩), .int .i64 x] w fun v w' => v = .int .i64 (s.Q9 x) ∧ V w0 w' (eH e (s.Ci x) • F) := by
 refine oP func27 ntmps27 ?_
 refine lZ O (aO (bM O (dZ O func32 (jm H) ?_)))
 rintro _ _ ⟨rfl, rfl⟩
 refine gY O (bM O (aV (dO O O) (kK O (fun h1 => ?_) (fun h1 => ?_))))
 ·(try simp only [aH] at h1)
  obtain ⟨hin, hpe⟩ := rQ h1
  refine bM O (iW O (aK (fB results27 O ?_)))
  rw [hpe]
  exact ⟨by simp [aY.Q9, aY.Ci, hin], by rw [show s.Ci x = s from by simp [aY.Q9, aY.Ci, hin]]; exact H⟩
 ·(try simp only [aH] at h1)
  have hin := oW h1
  refine iq (aO ?_)
  obtain ⟨qV, rC, rD, rZ, rE, rF, rG, rH, qA, oZ, o7, o8, o9, pq, pz, pF, pG, pI, pJ, pK, dV, bP, jh, dY⟩ := (H).Dy
  refine aC (ny O O (bf 0 ah O aJ O (bf 0 aA O iD O (dQ dU O (dY).get.2 O (cZ O (dZ O func61 (zS dY.f2) ?_))))))
  rintro _ w3 ⟨rfl, H3⟩
  refine iW O (fB results27 O ?_)
  exact ⟨by simp [aY.Q9, hin], by rw [show s.Ci x = s.lJ s.c.L s.c.pt (Zi s.c.L s.c.mark x) from by simp [aY.Ci, hin]]; exact V.eY (uG dV _ _ _) bP H3.f11.f11.f11.f11.f11.f11.f11.f11.f11.f10.f11⟩
theorem Og (H : V w0 w (eH e s • F)) : iU prog 28 #[.pointer (some ⟨e, 0, none⟩)] w fun v w' => v = .int .i64 s.Rf ∧ V w0 w' (eH e s.Cj • F) := by
 refine ji func28 ntmps28 ?_
 refine lZ O (aO (bM O (dZ O func32 (jm H) ?_)))
 rintro _ _ ⟨rfl, rfl⟩
 refine gY O (bM O (aV (dO O O) (kK O (fun h1 => ?_) (fun h1 => ?_))))
 ·(try simp only [aH] at h1)
  obtain ⟨hin, hpe⟩ := rQ h1
  refine bM O (iW O (aK (fB results28 O ?_)))
  rw [hpe]
  exact ⟨by simp [aY.Rf, aY.Cj, hin], by rw [show s.Cj = s from by simp [aY.Rf, aY.Cj, hin]]; exact H⟩
 ·(try simp only [aH] at h1)
  have hin := oW h1
  refine iq (aO ?_)
  obtain ⟨qV, rC, rD, rZ, rE, rF, rG, rH, qA, oZ, o7, o8, o9, pq, pz, pF, pG, pI, pJ, pK, dV, bP, jh, dY⟩ := (H).Dy
  refine aC (ny O O (bf 0 ah O aJ O (bf 0 aA O iD O (dQ dU O (dY).get.2 O (dZ O func64 (Ld dY.f2) ?_)))))
  rintro _ w3 ⟨rfl, H3⟩
  refine iW O (fB results28 O ?_)
  exact ⟨by simp [aY.Rf, hin], by rw [show s.Cj = s.lJ s.c.L (swP s.c.pt s.c.mark) (swM s.c.pt s.c.mark) from by simp [aY.Cj, hin]]; exact V.eY (uG dV _ _ _) bP H3.f11.f11.f11.f11.f11.f11.f11.f11.f11.f10.f11⟩
theorem Oh (H : V w0 w (eH e s • F)) : iU prog 31 #[.pointer (some ⟨e, 0, none⟩), .int .i64 x] w fun v w' => v = .int .i64 (s.AU x) ∧ V w0 w' (eH e (s.AV x) • F) := by
 refine oP func31 ntmps31 ?_
 refine lZ O (aO (bM O (dZ O func32 (jm H) ?_)))
 rintro _ _ ⟨rfl, rfl⟩
 refine gY O (bM O (aV (dO O O) (kK O (fun h1 => ?_) (fun h1 => ?_))))
 ·(try simp only [aH] at h1)
  obtain ⟨hin, hpe⟩ := rQ h1
  refine bM O (iW O (aK (fB results31 O ?_)))
  rw [hpe]
  exact ⟨by simp [aY.AU, aY.AV, hin], by rw [show s.AV x = s from by simp [aY.AU, aY.AV, hin]]; exact H⟩
 ·(try simp only [aH] at h1)
  have hin := oW h1
  refine iq (aO (bM O (aV (fJ O O) (qC O (fun h2 => ?_) (fun h2 => ?_)))))
  ·(try simp only [aH] at h2)
   refine dH (dH (pW O O (iT (EY (lF O (aK (fB results31 O ?_)))))))
   have hd : s.AU x = 1 := by unfold aY.AU; rw [if_pos hin, if_pos (by omega)]
   exact ⟨by rw [hd], by unfold aY.AV; rw [hd, if_neg (by decide)]; exact H⟩
  ·(try simp only [aH] at h2)
   refine bU (cZ O (bU (aV (fZ O O) (lV O O (kK O (fun h3 => ?_) (fun h3 => ?_))))))
   ·(try simp only [aH] at h3)
    refine lF O (aK (fB results31 O ?_))
    have hd : s.AU x = 1 := by unfold aY.AU; rw [if_pos hin, if_pos (by omega)]
    exact ⟨by rw [hd], by unfold aY.AV; rw [hd, if_neg (by decide)]; exact H⟩
   ·(try simp only [aH] at h3)
    refine iq (aO ?_)
    have hd : s.AU x = 0 := by unfold aY.AU; rw [if_pos hin, if_neg (by omega)]
    obtain ⟨qV, rC, rD, rZ, rE, rF, rG, rH, qA, oZ, o7, o8, o9, pq, pz, pF, pG, pI, pJ, pK, dV, bP, jh, dY⟩ := (H).Dy
    refine aC (mQ O O (dM O (bf 0 ah O aJ O (bf 4 aA O aj O (aI (dN 4 dY aj) ?_)))))
    rintro _ w3 H3
    refine iT (lF O (fB results31 O ?_))
    rw [hd]
    refine ⟨O, ?_⟩
    unfold aY.AV
    rw [if_pos hd]
    exact V.eY (s := { s with c := { s.c with mode := x } }) dV bP H3.f11.f11.f11.f11.f11.f11.f11.f11.f11.f11.f11
end
end Go.Proofs.YtimndnfpcomhlaaGreatDoor
end
