import Derived.Test.YtpdeedplgmbopaaGreatDoorZ4
import Derived.Test.YtpdeedplgmbopaaGreatDoorZ10
import Derived.Test.YtpdeedplgmbopaaGreatDoorZ6
import Derived.Lib.OthersKept
import Derived.Lib.Bytealg
import Derived.Conc.AtomicLaws2
import Derived.Test.YtpdeedplgmbopaaGreatDoorZ3
set_option linter.unusedSimpArgs false
set_option linter.unusedVariables false
/- Texts of mine, joined, their names in short: EdA Atom EdB EdC EdMv. -/
section
namespace Go.Proofs.YtpdeedplgmbopaaGreatDoor
open Go.RowKit
open _root_.Go.Proofs.Tryz
def Pv (D : List Int) (P : Int → Nat) (k : Int) : Option Addr := if k ∈ D then some ⟨P k, 0, none⟩ else none
theorem aae (D : List Int) (P : Int → Nat) (k : Int) : (Wp D P k).getD (.pointer none) = .pointer (Pv D P k) := by unfold Wp Pv; split <;> rfl
theorem Wy {D : List Int} {P : Int → Nat} {k : Int} (h : k ∈ D) : Pv D P k = some ⟨P k, 0, none⟩ := if_pos h
theorem abg {D : List Int} {P : Int → Nat} {k : Int} (h : (Pv D P k).isNone = false) : k ∈ D := by
  unfold Pv at h
  split at h
  · assumption
  · cases h
theorem abh {D : List Int} {P : Int → Nat} {k : Int} (h : (Pv D P k).isNone = true) : k ∉ D := by
  unfold Pv at h
  split at h
  · cases h
  · assumption
theorem AL {s : bQ} (h : ¬ s.AX = 0) : s.inn = false ∧ s.AX = 1 := by
  unfold bQ.AX at *
  cases hi : s.inn <;> simp_all
theorem yA {s : bQ} (h : s.AX = 0) : s.inn = true := by
  unfold bQ.AX at h
  cases hi : s.inn <;> simp_all
theorem V.akF {w0 w : World} {A B C F : HP} (H : V w0 w (A • B • C • F)) : V w0 w (A • (B • C) • F) := H.of_eq (by rw [dY])
section
variable {w0 w : World} {F : HP} {e p : Nat} {s : bQ}
theorem xk (H : V w0 w (dZ e s • F)) : jf prog 65 #[.pointer (some ⟨e, 0, none⟩)] w fun v w' => v = .bool false ∧ w = w' := by
 refine jE func65 ntmps65 ?_
 refine kH O (aI ?_)
 obtain ⟨xE, yB, yC, y9, yD, yE, yF, yG, xG, vM, vN, vO, vP, vS, vT, vU, vV, vW, vX, vY, iT, dQ, lT, jm⟩ := (H).Jp
 refine aF (bW O (aV (kU bY O O) (jY O (fun h1 => ?_) (fun h1 => ?_))))
 ·(try simp only [Z] at h1)
  exfalso; first | contradiction | omega
 ·(try simp only [Z] at h1)
  refine bF (bW O (bF (dV O (bF (bM 11 ay O sizeOf78 O (bF (eH nK O (jm).get.2 O (bF (aV (kU nK O O) (iH O O (fP O (dL results65 O ?_))))))))))))
  exact ⟨O, O⟩
theorem mZ (H : V w0 w (dZ e s • F)) : jf prog 81 #[.pointer (some ⟨e, 0, none⟩)] w fun v w' => v = .int .i64 s.AX ∧ w = w' := by
 unfold bQ.AX
 refine jE func81 ntmps81 ?_
 refine kH O (aI (bf (bI O (dX O func65 (xk H) ?_))))
 rintro _ _ ⟨rfl, rfl⟩
 refine fO O (oL (aI ?_))
 obtain ⟨xE, yB, yC, y9, yD, yE, yF, yG, xG, vM, vN, vO, vP, vS, vT, vU, vV, vW, vX, vY, iT, dQ, lT, jm⟩ := (H).Jp
 refine aF (mX O O (bM 16 ay O aT O (eH bJ O (jm).get.2 O (aV (jR O) (fO O (bg O (fun h1 => ?_) (fun h1 => ?_)))))))
 ·(try simp only [Z] at h1)
  refine jS O (aN (aC (dL results81 O ?_)))
  exact ⟨by simp [*], O⟩
 ·(try simp only [Z] at h1)
  refine bU (aH (aU (jS O (dL results81 O ?_))))
  exact ⟨by simp [*], O⟩
theorem y7 {x0 x1 x4 x5 x6 x7 x8 x9 x10 x11 x12 BK x14 x15 x16 x17 x18 x19 x20 x21 Dn x23 x24 x25 Dp x27 x28 x29 x30 x31 x32 Eb : Value} {pw pt pm : Nat} {k : Int} {U : Int → List (List jL)} (H : V w0 w (gJ e (.cells (x0 :: x1 :: .pointer (some ⟨pw, 0, none⟩) :: .map (some pm) :: x4 :: x5 :: x6 :: x7 :: x8 :: x9 :: x10 :: x11 :: x12 :: BK :: x14 :: x15 :: x16 :: x17 :: x18 :: x19 :: x20 :: x21 :: Dn :: x23 :: x24 :: x25 :: Dp :: x27 :: x28 :: x29 :: x30 :: x31 :: x32 :: Eb :: []).toArray 82 (0, 0)) • gJ pw (.cells #[.int .i64 k, .map (some pt)] 122 (0, 0)) • Ci pm U • F)) : jf prog 134 #[.pointer (some ⟨e, 0, none⟩)] w fun v w' => ∃ p, v = .pointer (some ⟨p, 0, none⟩) ∧
  V w0 w' (kC p (U k) [] 0 • SV pm U k p • gJ e (.cells (x0 :: x1 :: .pointer (some ⟨pw, 0, none⟩) :: .map (some pm) :: x4 :: x5 :: x6 :: x7 :: x8 :: x9 :: x10 :: x11 :: x12 :: BK :: x14 :: x15 :: x16 :: x17 :: x18 :: x19 :: x20 :: x21 :: Dn :: x23 :: x24 :: x25 :: Dp :: x27 :: x28 :: x29 :: x30 :: x31 :: x32 :: Eb :: []).toArray 82 (0, 0)) • gJ pw (.cells #[.int .i64 k, .map (some pt)] 122 (0, 0)) • F) := by
 refine jE func134 ntmps134 ?_
 refine kH O (aI ?_)
 obtain ⟨D, P, hD1, hD2, HU⟩ := (H.f3).afD
 have L8 := HU.drew
 have kS := V.kp (L8.f4.f4.f4.f4)
 refine nG [4, 9, 12, 13] kS O (fD 0 O kS O (iG 1 O kS O (dJ 2 O kS 0 ay O aY O (dJ 3 O kS 3 aS O sizeOf75 O (fM 4 O kS (fun W hW => fQ oW O ((Kp.h hW).f3).get.2 O) (fD 5 O kS O (iG 6 O kS O (dJ 7 O kS 0 ay O aY O (dJ 8 O kS 2 aS O sizeOf74 O (fM 9 O kS (fun W hW => fQ oV O ((Kp.h hW).f3).get.2 O) (iG 10 O kS O (dJ 11 O kS 0 jk O aj O (fM 12 O kS (fun W hW => fQ aA O ((Kp.h hW).f4).get.2 O) (fM 13 O kS (fun W hW => NG (Wh ((Kp.h hW)) oW aA zeroValue184 O O) (aae D P k)) (dS 14 O kS (fun _ => aW O) (lJ (aU (aI (bI O (aV (kU underlying184 O O) (iW O (fun h1 => ?_) (fun h1 => ?_))))))))))))))))))))))
 ·(try simp only [Z] at h1)
  have hnm := abh h1
  refine jg (dX O func174 (Ut L8) ?_)
  rintro _ w1 ⟨p1, rfl, H1⟩
  refine fO O ?_
  have ajn := H1.drew
  have DR := V.kp (ajn.f5.f5.f5.f5.f5)
  refine nG [4, 9, 12] DR O (fD 0 O DR O (iG 1 O DR O (dJ 2 O DR 0 ay O aY O (dJ 3 O DR 3 aS O sizeOf75 O (fM 4 O DR (fun W hW => fQ oW O ((Kp.h hW).f4).get.2 O) (fD 5 O DR O (iG 6 O DR O (dJ 7 O DR 0 ay O aY O (dJ 8 O DR 2 aS O sizeOf74 O (fM 9 O DR (fun W hW => fQ oV O ((Kp.h hW).f4).get.2 O) (iG 10 O DR O (dJ 11 O DR 0 jk O aj O (fM 12 O DR (fun W hW => fQ aA O ((Kp.h hW).f5).get.2 O) (fD 13 O DR O ?_))))))))))))))
  refine dF 14 O (by kernel_rfl) (yZ ajn.f2 oW aA O O O) ?_
  rintro _ w2 H2
  have zB := V.kp (H2.f5.f5.f5.f5.f5)
  refine gU zB (by kernel_rfl) ?_
  refine lJ (aU (bI O (fP O (dL results134 O ?_))))
  have hu1 : Nh (zD P k p1) U (D ++ [k]) = (Nh P U D • kC p1 [] [] 0) := by
   rw [Po, jo, hD2 _ hnm, IL (P' := P) (U' := U) fun x hx => ⟨zF _ _ (by rintro rfl; exact hnm hx), rfl⟩]
  have HM := V.akF H2.f5.f5.f4.f5.f5
  rw [← hu1, ← Wv hnm] at HM
  have HZ := V.agJ (k := k) (Pq hD1 hnm) (fun k hk => hD2 k fun hm => hk (by simp [hm])) (by simp) HM
  rw [jo] at HZ
  exact ⟨_, O, HZ⟩
 ·(try simp only [Z] at h1)
  have hmem := abg h1
  rw [Wy hmem]
  refine gy (bI O (fP O (dL results134 O ?_)))
  exact ⟨_, O, V.agJ hD1 hD2 hmem L8.f4.f4.f4.f4⟩
theorem V.KH {b p : Nat} {k : Int} {U : Int → List (List jL)} (H : V w0 w (SV b U k p • kC p (U k) [] 0 • F)) : V w0 w (Ci b U • F) := by
  have := H.Ag
  rwa [Z8] at this
end
end Go.Proofs.YtpdeedplgmbopaaGreatDoor
end
section
namespace Go.Proofs.YtpdeedplgmbopaaGreatDoor
open Go.RowKit Go.Lib
section
variable {P : Program} {L : List (Nat × Value)} {w0 w : World} {F : HP} {ty : TypeId} {b : Nat} {v d : Int} {t : TypeId}
theorem acW {T : Value → World → Prop} {f : FuncId} {args : List Operand} {ts : Array TypeId} {vs : List Value} {fn : Func} {e : Array Value → Sem Value} {v : Value} {w' : World} (ha : Je L args = some vs)
    (hf : P.funcs[f]? = some fn) (hname : (fn.name == "runtime.NumGoroutine") = false) (hb : fn.body.isNone = true) (hn : Extern.findNext fn = none) (he : Extern.find fn = some e) (hr : (e vs.toArray).run P w = .ok v w') (ht : T v w') :
    zU P L (.call ⟨.value (.func f), args.toArray, ts⟩) ty w T := yT (v := v) (w' := w') (fun ρ hρ _ _ _ _ => by
  have hg : ρ (.func f) = .func (.func f) #[] #[] := hρ _ _ rfl
  have hc := run_callFunc_extern hf hname hb hn he vs.toArray w
  rw [hr] at hc
  simp [execOp, resolve, invoke, evs hρ _ _ ha, hg, Deferred.ofValue]
  exact hc) ht
theorem YO (hc : w.cell? ⟨b, 0, none⟩ = some (.int .i64 v)) : (Extern.Atomic.loadT (.int .i64) #[.pointer (some ⟨b, 0, none⟩)]).run P w = .ok (.int .i64 v) w := by
  change Sem.run P (do Extern.Atomic.read (.int .i64) (← asAddr (.pointer (some ⟨b, 0, none⟩)))) w = _
  simp [Extern.Atomic.read, asAddr, hc, Result.andThen]
theorem afE {f : FuncId} {args : List Operand} {ts : Array TypeId} {fn : Func} (H : V w0 w (gJ b (.cells #[.int .i64 v] t (0, 0)) • F)) (ha : Je L args = some [.pointer (some ⟨b, 0, none⟩), .int .i64 d])
    (hf : P.funcs[f]? = some fn) (hname : (fn.name == "runtime.NumGoroutine") = false) (hb : fn.body.isNone = true) (hn : Extern.findNext fn = none) (he : Extern.find fn = some (Extern.Atomic.update (Op.intArith .add) .i64 true)) :
    zU P L (.call ⟨.value (.func f), args.toArray, ts⟩) ty w fun u w' => u = .int .i64 (IntKind.i64.wrap (v + d)) ∧ V w0 w' (gJ b (.cells #[.int .i64 (IntKind.i64.wrap (v + d))] t (0, 0)) • F) :=
  acW ha hf hname hb hn he (Conc.run_add_entry (iI H.get.2 rfl) (GL H.get.2)) ⟨rfl, H.setCell (i := 0) _⟩
theorem acX {f : FuncId} {args : List Operand} {ts : Array TypeId} {fn : Func} (H : V w0 w (gJ b (.cells #[.int .i64 v] t (0, 0)) • F)) (ha : Je L args = some [.pointer (some ⟨b, 0, none⟩)])
    (hf : P.funcs[f]? = some fn) (hname : (fn.name == "runtime.NumGoroutine") = false) (hb : fn.body.isNone = true) (hn : Extern.findNext fn = none) (he : Extern.find fn = some (Extern.Atomic.loadT (.int .i64))) :
    zU P L (.call ⟨.value (.func f), args.toArray, ts⟩) ty w fun u w' => u = .int .i64 v ∧ w = w' :=
  acW ha hf hname hb hn he (YO (iI H.get.2 rfl)) ⟨rfl, rfl⟩
theorem KI (H : V w0 w (gJ b (.cells #[.int .i64 v] t (0, 0)) • F)) : jf Tryz.prog 83 #[.pointer (some ⟨b, 0, none⟩), .int .i64 d] w fun u w' => u = .int .i64 (IntKind.i64.wrap (v + d)) ∧ V w0 w' (gJ b (.cells #[.int .i64 (IntKind.i64.wrap (v + d))] t (0, 0)) • F) := by
  refine qo Tryz.func83 Tryz.ntmps83 ?_
  refine kH O (bI O (dV O (bM 0 Tryz.underlying161 O fV O (bW O (kV (afE H O Tryz.func133 O O (by kernel_rfl) (by kernel_rfl)) ?_)))))
  rintro _ w1 ⟨rfl, H1⟩
  refine fP O (dL Tryz.results83 O ?_)
  exact ⟨O, H1⟩
theorem sZ (H : V w0 w (gJ b (.cells #[.int .i64 v] t (0, 0)) • F)) : jf Tryz.prog 68 #[.pointer (some ⟨b, 0, none⟩)] w fun u w' => u = .int .i64 v ∧ w = w' := by
  refine jE Tryz.func68 Tryz.ntmps68 ?_
  refine kH O (bI O (dV O (bM 0 Tryz.underlying161 O fV O (kV (acX H O Tryz.func121 O O (by kernel_rfl) (by kernel_rfl)) ?_))))
  rintro _ _ ⟨rfl, rfl⟩
  refine fP O (dL Tryz.results68 O ?_)
  exact ⟨O, O⟩
end
end Go.Proofs.YtpdeedplgmbopaaGreatDoor
end
section
namespace Go.Proofs.YtpdeedplgmbopaaGreatDoor
open Go.RowKit
open _root_.Go.Proofs.Tryz
section
variable {w0 w : World} {F : HP} {e p h pr : Nat} {s : bQ} {hl : List wY} {base most m : Int} {v : Value} {l : List Int}
theorem V.AZ {b : Nat} (H : V w0 w (jv yx b (fun _ => none) • F)) : V w0 w (Ci b (fun _ => []) • F) :=
  V.IQ (D := []) (P := fun _ => 0) List.nodup_nil (fun _ _ => rfl) (by rw [aad]; exact H.of_eq (by show _ = (_ • emp • _); rw [YtpdeedplgmbopaaGreatDoor.tV]))
set_option maxHeartbeats 1000000 in
theorem Jq {x0 x2 x3 x5 x6 x7 x8 x9 x10 x11 x12 BK x14 x15 x16 x17 x18 x19 x20 x21 Dn x23 x24 x25 Dp x27 x28 x29 x30 x31 x32 Eb : Value} {E : List (List Int)} {a : Nat} (H : V w0 w (gJ e (.cells (x0 :: .pointer (some ⟨pr, 0, none⟩) :: x2 :: x3 :: .int .i64 m :: x5 :: x6 :: x7 :: x8 :: x9 :: x10 :: x11 :: x12 :: BK :: x14 :: x15 :: x16 :: x17 :: x18 :: x19 :: x20 :: x21 :: Dn :: x23 :: x24 :: x25 :: Dp :: x27 :: x28 :: x29 :: x30 :: x31 :: x32 :: Eb :: []).toArray 82 (0, 0)) • jZ h hl base most • F)) (hr : jO w0 F .i32 v l) (hshort : l.length ≤ 1024) :
  jf prog 111 #[.pointer (some ⟨e, 0, none⟩), .pointer (some ⟨h, 0, none⟩), v] w fun _ w' => ∃ pb pw pt pm ph, V w0 w' (gJ e (.cells (.pointer (some ⟨pb, 0, none⟩) :: .pointer (some ⟨pr, 0, none⟩) :: .pointer (some ⟨pw, 0, none⟩) :: .map (some pm) :: .int .i64 m :: .bool false :: .int .i64 0 :: .int .i64 0 :: .int .i64 0 :: .int .i64 0 :: .bool false :: .pointer (some ⟨ph, 0, none⟩) :: x12 :: .bool false :: .bool false :: .int .i64 (-1) :: x16 :: x17 :: x18 :: x19 :: x20 :: x21 :: Dn :: x23 :: x24 :: x25 :: Dp :: x27 :: x28 :: x29 :: x30 :: x31 :: x32 :: Eb :: []).toArray 82 (0, 0)) •
   jF pb l l.length (-1) • gJ pw (.cells #[.int .i64 hl.length, .map (some pt)] 122 (0, 0)) • jv yx pt (fun _ => none) • Ci pm (fun _ => []) • jZ ph hl base most • jZ h hl base most • F) := by
 refine EU func111 ntmps111 ?_
 refine bI O (dX O func151 (VG H (fun W HW => hr _ (HW.right.right)) hshort) ?_)
 rintro _ w1 ⟨p1, rfl, H1⟩
 refine bW O (oZ O O (oZ O O (gW O (fO O (bI O (bW O (dX O func109 (zC H1.f3) ?_)))))))
 rintro _ w2 ⟨q2, rfl, H2⟩
 refine dV O (bM 11 ay O sizeOf78 O (aQ (iw 11 H2.f4 sizeOf78) ?_))
 rintro _ w3 H3
 refine rW ?_
 have afF := H3.drew
 have Eh := V.kp (afF.f3.right.f3.f3.f3)
 refine nG [6, 17] Eh O (fD 0 O Eh O (fD 1 O Eh O (fD 2 O Eh O (iG 3 O Eh O (dJ 4 O Eh 0 ay O aY O (dJ 5 O Eh 1 aS O sizeOf73 O (fM 6 O Eh (fun W hW => fQ wC O ((Kp.h hW)).get.2 O) (fD 7 O Eh O (fD 13 O Eh O (iG 14 O Eh O (dJ 15 O Eh 0 ay O aY O (dJ 16 O Eh 4 aS O aj O (fM 17 O Eh (fun W hW => fQ aA O ((Kp.h hW)).get.2 O) ?_)))))))))))))
 refine acj (i := 8) (j := 9) (k := 12) (by kernel_rfl) ?_ ?_ ?_
 ·skip
  refine nM 8 O (by kernel_rfl) (uU (wF O func117 O O) (uZ afF.f3)) (gV O) ?_
  rintro _ w4 ⟨rfl, H4⟩
  have oH := V.kp (H4.f4.f4.f4.f4)
  refine dK oH (fun W hW => (Kp.h hW).right.f3.f3.f3) ?_
  refine Ez (i := 9) (j := 12) (by kernel_rfl) ?_ ?_
  ·skip
   refine nM 9 O (by kernel_rfl) (mY (DN .i64) H4) (gV O) ?_
   rintro _ w5 ⟨b5, rfl, H5⟩
   have D8 := V.kp (H5.f5.f5.f5.f5.f5)
   refine dK D8 (fun W hW => (Kp.h hW).right.f4.f4.f4.f4) ?_
   refine dS 10 O D8 (fun _ => iJ (zl := [.int .i64 0, .map none]) (pl := [(0, 1), (1, 1)]) [_, _] jk sW O (fun w => by kernel_rfl) O (.on (.on .nil)) O) ?_
   refine Ez (i := 11) (j := 12) (by kernel_rfl) ?_ ?_
   ·skip
    refine nM 11 O (by kernel_rfl) (kK (l := [_, _]) H5 O O) (gV O) ?_
    rintro _ w6 ⟨b6, rfl, H6⟩
    have jV := V.kp (H6.f6.f6.f6.f6.f6.f6)
    refine dK jV (fun W hW => (Kp.h hW).right.f5.f5.f5.f5.f5) ?_
    refine ny 12 O (mY (DN .i64) H6) ?_
    rintro _ w7 ⟨b7, rfl, H7⟩
    have Ae := V.kp (H7.f7.f7.f7.f7.f7.f7.f7)
    refine dK Ae (fun W hW => (Kp.h hW).right.f6.f6.f6.f6.f6.f6) ?_
    refine dS 18 O Ae (fun _ => iJ (zl := [.pointer none, .pointer none, .pointer none, .map none, .int .i64 0, .bool false, .int .i64 0, .int .i64 0, .int .i64 0, .int .i64 0, .bool false]) (pl := [(0, 1), (1, 1), (2, 1), (3, 1), (4, 1), (5, 1), (6, 1), (7, 1), (8, 1), (9, 1), (10, 1)]) [_, _, _, _, _, _, _, _, _, _, _] aS qR O (fun w => by kernel_rfl) O (.on (.on (.on (.on (.on (.zero (zs := [.bool false]) O (.zero (zs := [.int .i64 0]) O (.zero (zs := [.int .i64 0]) O (.zero (zs := [.int .i64 0]) O (.zero (zs := [.int .i64 0]) O (.zero (zs := [.bool false]) O .nil))))))))))) O) ?_
    refine iG 19 O Ae O (dJ 20 O Ae 0 ay O aY O ?_)
    refine dF 21 O (by kernel_rfl) (dM 0 (l' := [_, _, _, _, _, _, _, _, _, _, _, _, _, _, _, _, _, _, _, _, _, _, _, _, _, _, _, _, _, _, _, _, _, _]) (us := [_, _, _, _, _, _, _, _, _, _, _]) H7.f5 aY O O O (aJ (aJ (aJ (aJ (aJ (aJ (aJ (aJ (aJ (aJ (aJ dn))))))))))) O O) ?_
    rintro _ w8 H8
    have LX := V.kp (H8.f7.f7.f7.f7.f7.f7.f7)
    refine gU LX (by kernel_rfl) ?_
    refine lJ (aU (aF (jU O O (mX O O (bM 13 ay O aT O (aQ (iw 13 H8 aT) ?_))))))
    rintro _ w9 H9
    refine dV O (bM 14 ay O aT O (aQ (iw 14 H9 aT) ?_))
    rintro _ w10 pG
    refine dV O (bM 15 ay O aj O (aQ (iw 15 pG aj) ?_))
    rintro _ FK ru
    refine bT (oU (.inr O) results111 ?_)
    have Px := ru.f2
    have NV := Px.AZ
    exact ⟨_, _, _, _, _, NV.f5.f6.f3.f6.f6.f7.f7⟩
   ·skip
    refine nM 12 O (by kernel_rfl) (mY (DN .i64) H5) (gV O) ?_
    rintro _ OG ⟨b14, rfl, rU⟩
    have Ho := V.kp (rU.f6.f6.f6.f6.f6.f6)
    refine dK Ho (fun W hW => (Kp.h hW).right.f5.f5.f5.f5.f5) ?_
    refine ny 11 O (kK (l := [_, _]) rU O O) ?_
    rintro _ OM ⟨b15, rfl, zV⟩
    have zA := V.kp (zV.f7.f7.f7.f7.f7.f7.f7)
    refine dK zA (fun W hW => (Kp.h hW).right.f6.f6.f6.f6.f6.f6) ?_
    refine dS 18 O zA (fun _ => iJ (zl := [.pointer none, .pointer none, .pointer none, .map none, .int .i64 0, .bool false, .int .i64 0, .int .i64 0, .int .i64 0, .int .i64 0, .bool false]) (pl := [(0, 1), (1, 1), (2, 1), (3, 1), (4, 1), (5, 1), (6, 1), (7, 1), (8, 1), (9, 1), (10, 1)]) [_, _, _, _, _, _, _, _, _, _, _] aS qR O (fun w => by kernel_rfl) O (.on (.on (.on (.on (.on (.zero (zs := [.bool false]) O (.zero (zs := [.int .i64 0]) O (.zero (zs := [.int .i64 0]) O (.zero (zs := [.int .i64 0]) O (.zero (zs := [.int .i64 0]) O (.zero (zs := [.bool false]) O .nil))))))))))) O) ?_
    refine iG 19 O zA O (dJ 20 O zA 0 ay O aY O ?_)
    refine dF 21 O (by kernel_rfl) (dM 0 (l' := [_, _, _, _, _, _, _, _, _, _, _, _, _, _, _, _, _, _, _, _, _, _, _, _, _, _, _, _, _, _, _, _, _, _]) (us := [_, _, _, _, _, _, _, _, _, _, _]) zV.f5 aY O O O (aJ (aJ (aJ (aJ (aJ (aJ (aJ (aJ (aJ (aJ (aJ dn))))))))))) O O) ?_
    rintro _ w16 uT
    have yY := V.kp (uT.f7.f7.f7.f7.f7.f7.f7)
    refine gU yY (by kernel_rfl) ?_
    refine lJ (aU (aF (jU O O (mX O O (bM 13 ay O aT O (aQ (iw 13 uT aT) ?_))))))
    rintro _ Yp BX
    refine dV O (bM 14 ay O aT O (aQ (iw 14 BX aT) ?_))
    rintro _ ZO EW
    refine dV O (bM 15 ay O aj O (aQ (iw 15 EW aj) ?_))
    rintro _ w19 EP
    refine bT (oU (.inr O) results111 ?_)
    have acY := EP.f3
    have YP := acY.AZ
    exact ⟨_, _, _, _, _, YP.f5.f6.f3.f6.f6.f7.f7⟩
  ·skip
   refine nM 12 O (by kernel_rfl) (mY (DN .i64) H4) (gV O) ?_
   rintro _ w22 ⟨b22, rfl, Jh⟩
   have KG := V.kp (Jh.f5.f5.f5.f5.f5)
   refine dK KG (fun W hW => (Kp.h hW).right.f4.f4.f4.f4) ?_
   refine ny 9 O (mY (DN .i64) Jh) ?_
   rintro _ w23 ⟨b23, rfl, AQ⟩
   have Fa := V.kp (AQ.f6.f6.f6.f6.f6.f6)
   refine dK Fa (fun W hW => (Kp.h hW).right.f5.f5.f5.f5.f5) ?_
   refine dS 10 O Fa (fun _ => iJ (zl := [.int .i64 0, .map none]) (pl := [(0, 1), (1, 1)]) [_, _] jk sW O (fun w => by kernel_rfl) O (.on (.on .nil)) O) ?_
   refine ny 11 O (kK (l := [_, _]) AQ O O) ?_
   rintro _ w24 ⟨b24, rfl, Kq⟩
   have Jr := V.kp (Kq.f7.f7.f7.f7.f7.f7.f7)
   refine dK Jr (fun W hW => (Kp.h hW).right.f6.f6.f6.f6.f6.f6) ?_
   refine dS 18 O Jr (fun _ => iJ (zl := [.pointer none, .pointer none, .pointer none, .map none, .int .i64 0, .bool false, .int .i64 0, .int .i64 0, .int .i64 0, .int .i64 0, .bool false]) (pl := [(0, 1), (1, 1), (2, 1), (3, 1), (4, 1), (5, 1), (6, 1), (7, 1), (8, 1), (9, 1), (10, 1)]) [_, _, _, _, _, _, _, _, _, _, _] aS qR O (fun w => by kernel_rfl) O (.on (.on (.on (.on (.on (.zero (zs := [.bool false]) O (.zero (zs := [.int .i64 0]) O (.zero (zs := [.int .i64 0]) O (.zero (zs := [.int .i64 0]) O (.zero (zs := [.int .i64 0]) O (.zero (zs := [.bool false]) O .nil))))))))))) O) ?_
   refine iG 19 O Jr O (dJ 20 O Jr 0 ay O aY O ?_)
   refine dF 21 O (by kernel_rfl) (dM 0 (l' := [_, _, _, _, _, _, _, _, _, _, _, _, _, _, _, _, _, _, _, _, _, _, _, _, _, _, _, _, _, _, _, _, _, _]) (us := [_, _, _, _, _, _, _, _, _, _, _]) Kq.f5 aY O O O (aJ (aJ (aJ (aJ (aJ (aJ (aJ (aJ (aJ (aJ (aJ dn))))))))))) O O) ?_
   rintro _ w25 LU
   have Hy := V.kp (LU.f7.f7.f7.f7.f7.f7.f7)
   refine gU Hy (by kernel_rfl) ?_
   refine lJ (aU (aF (jU O O (mX O O (bM 13 ay O aT O (aQ (iw 13 LU aT) ?_))))))
   rintro _ w26 QS
   refine dV O (bM 14 ay O aT O (aQ (iw 14 QS aT) ?_))
   rintro _ w27 LV
   refine dV O (bM 15 ay O aj O (aQ (iw 15 LV aj) ?_))
   rintro _ w28 H28
   refine bT (oU (.inr O) results111 ?_)
   have ahP := H28.f4
   have ahQ := ahP.AZ
   exact ⟨_, _, _, _, _, ahQ.f5.f6.f3.f6.f6.f7.f7⟩
 ·skip
  refine nM 9 O (by kernel_rfl) (mY (DN .i64) afF) (gV O) ?_
  rintro _ w31 ⟨b31, rfl, Uk⟩
  have SY := V.kp (Uk.f4.right.f4.f4.f4.f4)
  refine dK SY (fun W hW => (Kp.h hW).right.f3.f3.f3) ?_
  refine Ez (i := 8) (j := 12) (by kernel_rfl) ?_ ?_
  ·skip
   refine nM 8 O (by kernel_rfl) (uU (wF O func117 O O) (uZ Uk.f4)) (gV O) ?_
   rintro _ w32 ⟨rfl, OO⟩
   have Py := V.kp (OO.f5.f5.f5.f5.f5)
   refine dK Py (fun W hW => (Kp.h hW).right.f4.f4.f4.f4) ?_
   refine dS 10 O Py (fun _ => iJ (zl := [.int .i64 0, .map none]) (pl := [(0, 1), (1, 1)]) [_, _] jk sW O (fun w => by kernel_rfl) O (.on (.on .nil)) O) ?_
   refine Ez (i := 11) (j := 12) (by kernel_rfl) ?_ ?_
   ·skip
    refine nM 11 O (by kernel_rfl) (kK (l := [_, _]) OO O O) (gV O) ?_
    rintro _ w33 ⟨b33, rfl, Ul⟩
    have Pz := V.kp (Ul.f6.f6.f6.f6.f6.f6)
    refine dK Pz (fun W hW => (Kp.h hW).right.f5.f5.f5.f5.f5) ?_
    refine ny 12 O (mY (DN .i64) Ul) ?_
    rintro _ w34 ⟨b34, rfl, WA⟩
    have KJ := V.kp (WA.f7.f7.f7.f7.f7.f7.f7)
    refine dK KJ (fun W hW => (Kp.h hW).right.f6.f6.f6.f6.f6.f6) ?_
    refine dS 18 O KJ (fun _ => iJ (zl := [.pointer none, .pointer none, .pointer none, .map none, .int .i64 0, .bool false, .int .i64 0, .int .i64 0, .int .i64 0, .int .i64 0, .bool false]) (pl := [(0, 1), (1, 1), (2, 1), (3, 1), (4, 1), (5, 1), (6, 1), (7, 1), (8, 1), (9, 1), (10, 1)]) [_, _, _, _, _, _, _, _, _, _, _] aS qR O (fun w => by kernel_rfl) O (.on (.on (.on (.on (.on (.zero (zs := [.bool false]) O (.zero (zs := [.int .i64 0]) O (.zero (zs := [.int .i64 0]) O (.zero (zs := [.int .i64 0]) O (.zero (zs := [.int .i64 0]) O (.zero (zs := [.bool false]) O .nil))))))))))) O) ?_
    refine iG 19 O KJ O (dJ 20 O KJ 0 ay O aY O ?_)
    refine dF 21 O (by kernel_rfl) (dM 0 (l' := [_, _, _, _, _, _, _, _, _, _, _, _, _, _, _, _, _, _, _, _, _, _, _, _, _, _, _, _, _, _, _, _, _, _]) (us := [_, _, _, _, _, _, _, _, _, _, _]) WA.f5 aY O O O (aJ (aJ (aJ (aJ (aJ (aJ (aJ (aJ (aJ (aJ (aJ dn))))))))))) O O) ?_
    rintro _ w35 H35
    have Hz := V.kp (H35.f7.f7.f7.f7.f7.f7.f7)
    refine gU Hz (by kernel_rfl) ?_
    refine lJ (aU (aF (jU O O (mX O O (bM 13 ay O aT O (aQ (iw 13 H35 aT) ?_))))))
    rintro _ w36 H36
    refine dV O (bM 14 ay O aT O (aQ (iw 14 H36 aT) ?_))
    rintro _ w37 H37
    refine dV O (bM 15 ay O aj O (aQ (iw 15 H37 aj) ?_))
    rintro _ w38 WB
    refine bT (oU (.inr O) results111 ?_)
    have akG := WB.f2
    have akH := akG.AZ
    exact ⟨_, _, _, _, _, akH.f4.f6.f3.f6.f6.f7.f7⟩
   ·skip
    refine nM 12 O (by kernel_rfl) (mY (DN .i64) OO) (gV O) ?_
    rintro _ w41 ⟨b41, rfl, H41⟩
    have S9 := V.kp (H41.f6.f6.f6.f6.f6.f6)
    refine dK S9 (fun W hW => (Kp.h hW).right.f5.f5.f5.f5.f5) ?_
    refine ny 11 O (kK (l := [_, _]) H41 O O) ?_
    rintro _ w42 ⟨b42, rfl, H42⟩
    have KL := V.kp (H42.f7.f7.f7.f7.f7.f7.f7)
    refine dK KL (fun W hW => (Kp.h hW).right.f6.f6.f6.f6.f6.f6) ?_
    refine dS 18 O KL (fun _ => iJ (zl := [.pointer none, .pointer none, .pointer none, .map none, .int .i64 0, .bool false, .int .i64 0, .int .i64 0, .int .i64 0, .int .i64 0, .bool false]) (pl := [(0, 1), (1, 1), (2, 1), (3, 1), (4, 1), (5, 1), (6, 1), (7, 1), (8, 1), (9, 1), (10, 1)]) [_, _, _, _, _, _, _, _, _, _, _] aS qR O (fun w => by kernel_rfl) O (.on (.on (.on (.on (.on (.zero (zs := [.bool false]) O (.zero (zs := [.int .i64 0]) O (.zero (zs := [.int .i64 0]) O (.zero (zs := [.int .i64 0]) O (.zero (zs := [.int .i64 0]) O (.zero (zs := [.bool false]) O .nil))))))))))) O) ?_
    refine iG 19 O KL O (dJ 20 O KL 0 ay O aY O ?_)
    refine dF 21 O (by kernel_rfl) (dM 0 (l' := [_, _, _, _, _, _, _, _, _, _, _, _, _, _, _, _, _, _, _, _, _, _, _, _, _, _, _, _, _, _, _, _, _, _]) (us := [_, _, _, _, _, _, _, _, _, _, _]) H42.f5 aY O O O (aJ (aJ (aJ (aJ (aJ (aJ (aJ (aJ (aJ (aJ (aJ dn))))))))))) O O) ?_
    rintro _ w43 H43
    have Tc := V.kp (H43.f7.f7.f7.f7.f7.f7.f7)
    refine gU Tc (by kernel_rfl) ?_
    refine lJ (aU (aF (jU O O (mX O O (bM 13 ay O aT O (aQ (iw 13 H43 aT) ?_))))))
    rintro _ w44 H44
    refine dV O (bM 14 ay O aT O (aQ (iw 14 H44 aT) ?_))
    rintro _ w45 UN
    refine dV O (bM 15 ay O aj O (aQ (iw 15 UN aj) ?_))
    rintro _ w46 H46
    refine bT (oU (.inr O) results111 ?_)
    have akI := H46.f3
    have akJ := akI.AZ
    exact ⟨_, _, _, _, _, akJ.f4.f6.f3.f6.f6.f7.f7⟩
  ·skip
   refine nM 12 O (by kernel_rfl) (mY (DN .i64) Uk) (gV O) ?_
   rintro _ w49 ⟨b49, rfl, H49⟩
   have aaf := V.kp (H49.f5.right.f5.f5.f5.f5.f5)
   refine dK aaf (fun W hW => (Kp.h hW).right.f4.f4.f4.f4) ?_
   refine ny 8 O (wM O func117 (uZ H49.f5)) ?_
   rintro _ w50 ⟨rfl, H50⟩
   have WE := V.kp (H50.f6.f6.f6.f6.f6.f6)
   refine dK WE (fun W hW => (Kp.h hW).right.f5.f5.f5.f5.f5) ?_
   refine dS 10 O WE (fun _ => iJ (zl := [.int .i64 0, .map none]) (pl := [(0, 1), (1, 1)]) [_, _] jk sW O (fun w => by kernel_rfl) O (.on (.on .nil)) O) ?_
   refine ny 11 O (kK (l := [_, _]) H50 O O) ?_
   rintro _ w51 ⟨b51, rfl, H51⟩
   have PD := V.kp (H51.f7.f7.f7.f7.f7.f7.f7)
   refine dK PD (fun W hW => (Kp.h hW).right.f6.f6.f6.f6.f6.f6) ?_
   refine dS 18 O PD (fun _ => iJ (zl := [.pointer none, .pointer none, .pointer none, .map none, .int .i64 0, .bool false, .int .i64 0, .int .i64 0, .int .i64 0, .int .i64 0, .bool false]) (pl := [(0, 1), (1, 1), (2, 1), (3, 1), (4, 1), (5, 1), (6, 1), (7, 1), (8, 1), (9, 1), (10, 1)]) [_, _, _, _, _, _, _, _, _, _, _] aS qR O (fun w => by kernel_rfl) O (.on (.on (.on (.on (.on (.zero (zs := [.bool false]) O (.zero (zs := [.int .i64 0]) O (.zero (zs := [.int .i64 0]) O (.zero (zs := [.int .i64 0]) O (.zero (zs := [.int .i64 0]) O (.zero (zs := [.bool false]) O .nil))))))))))) O) ?_
   refine iG 19 O PD O (dJ 20 O PD 0 ay O aY O ?_)
   refine dF 21 O (by kernel_rfl) (dM 0 (l' := [_, _, _, _, _, _, _, _, _, _, _, _, _, _, _, _, _, _, _, _, _, _, _, _, _, _, _, _, _, _, _, _, _, _]) (us := [_, _, _, _, _, _, _, _, _, _, _]) H51.f5 aY O O O (aJ (aJ (aJ (aJ (aJ (aJ (aJ (aJ (aJ (aJ (aJ dn))))))))))) O O) ?_
   rintro _ w52 H52
   have aag := V.kp (H52.f7.f7.f7.f7.f7.f7.f7)
   refine gU aag (by kernel_rfl) ?_
   refine lJ (aU (aF (jU O O (mX O O (bM 13 ay O aT O (aQ (iw 13 H52 aT) ?_))))))
   rintro _ w53 H53
   refine dV O (bM 14 ay O aT O (aQ (iw 14 H53 aT) ?_))
   rintro _ w54 H54
   refine dV O (bM 15 ay O aj O (aQ (iw 15 H54 aj) ?_))
   rintro _ w55 H55
   refine bT (oU (.inr O) results111 ?_)
   have akK := H55.f4
   have akL := akK.AZ
   exact ⟨_, _, _, _, _, akL.f4.f6.f3.f6.f6.f7.f7⟩
 ·skip
  refine nM 12 O (by kernel_rfl) (mY (DN .i64) afF) (gV O) ?_
  rintro _ w58 ⟨b58, rfl, H58⟩
  have aah := V.kp (H58.f4.right.f4.f4.f4.f4)
  refine dK aah (fun W hW => (Kp.h hW).right.f3.f3.f3) ?_
  refine Ez (i := 8) (j := 9) (by kernel_rfl) ?_ ?_
  ·skip
   refine nM 8 O (by kernel_rfl) (uU (wF O func117 O O) (uZ H58.f4)) (gV O) ?_
   rintro _ w59 ⟨rfl, H59⟩
   have aai := V.kp (H59.f5.f5.f5.f5.f5)
   refine dK aai (fun W hW => (Kp.h hW).right.f4.f4.f4.f4) ?_
   refine ny 9 O (mY (DN .i64) H59) ?_
   rintro _ w60 ⟨b60, rfl, H60⟩
   have WG := V.kp (H60.f6.f6.f6.f6.f6.f6)
   refine dK WG (fun W hW => (Kp.h hW).right.f5.f5.f5.f5.f5) ?_
   refine dS 10 O WG (fun _ => iJ (zl := [.int .i64 0, .map none]) (pl := [(0, 1), (1, 1)]) [_, _] jk sW O (fun w => by kernel_rfl) O (.on (.on .nil)) O) ?_
   refine ny 11 O (kK (l := [_, _]) H60 O O) ?_
   rintro _ w61 ⟨b61, rfl, H61⟩
   have Td := V.kp (H61.f7.f7.f7.f7.f7.f7.f7)
   refine dK Td (fun W hW => (Kp.h hW).right.f6.f6.f6.f6.f6.f6) ?_
   refine dS 18 O Td (fun _ => iJ (zl := [.pointer none, .pointer none, .pointer none, .map none, .int .i64 0, .bool false, .int .i64 0, .int .i64 0, .int .i64 0, .int .i64 0, .bool false]) (pl := [(0, 1), (1, 1), (2, 1), (3, 1), (4, 1), (5, 1), (6, 1), (7, 1), (8, 1), (9, 1), (10, 1)]) [_, _, _, _, _, _, _, _, _, _, _] aS qR O (fun w => by kernel_rfl) O (.on (.on (.on (.on (.on (.zero (zs := [.bool false]) O (.zero (zs := [.int .i64 0]) O (.zero (zs := [.int .i64 0]) O (.zero (zs := [.int .i64 0]) O (.zero (zs := [.int .i64 0]) O (.zero (zs := [.bool false]) O .nil))))))))))) O) ?_
   refine iG 19 O Td O (dJ 20 O Td 0 ay O aY O ?_)
   refine dF 21 O (by kernel_rfl) (dM 0 (l' := [_, _, _, _, _, _, _, _, _, _, _, _, _, _, _, _, _, _, _, _, _, _, _, _, _, _, _, _, _, _, _, _, _, _]) (us := [_, _, _, _, _, _, _, _, _, _, _]) H61.f5 aY O O O (aJ (aJ (aJ (aJ (aJ (aJ (aJ (aJ (aJ (aJ (aJ dn))))))))))) O O) ?_
   rintro _ w62 H62
   have ajo := V.kp (H62.f7.f7.f7.f7.f7.f7.f7)
   refine gU ajo (by kernel_rfl) ?_
   refine lJ (aU (aF (jU O O (mX O O (bM 13 ay O aT O (aQ (iw 13 H62 aT) ?_))))))
   rintro _ w63 H63
   refine dV O (bM 14 ay O aT O (aQ (iw 14 H63 aT) ?_))
   rintro _ w64 H64
   refine dV O (bM 15 ay O aj O (aQ (iw 15 H64 aj) ?_))
   rintro _ w65 H65
   refine bT (oU (.inr O) results111 ?_)
   have akM := H65.f5
   have akN := akM.AZ
   exact ⟨_, _, _, _, _, akN.f5.f6.f3.f6.f6.f7.f7⟩
  ·skip
   refine nM 9 O (by kernel_rfl) (mY (DN .i64) H58) (gV O) ?_
   rintro _ w68 ⟨b68, rfl, H68⟩
   have aaj := V.kp (H68.f5.right.f5.f5.f5.f5.f5)
   refine dK aaj (fun W hW => (Kp.h hW).right.f4.f4.f4.f4) ?_
   refine ny 8 O (wM O func117 (uZ H68.f5)) ?_
   rintro _ w69 ⟨rfl, H69⟩
   have aak := V.kp (H69.f6.f6.f6.f6.f6.f6)
   refine dK aak (fun W hW => (Kp.h hW).right.f5.f5.f5.f5.f5) ?_
   refine dS 10 O aak (fun _ => iJ (zl := [.int .i64 0, .map none]) (pl := [(0, 1), (1, 1)]) [_, _] jk sW O (fun w => by kernel_rfl) O (.on (.on .nil)) O) ?_
   refine ny 11 O (kK (l := [_, _]) H69 O O) ?_
   rintro _ w70 ⟨b70, rfl, H70⟩
   have aal := V.kp (H70.f7.f7.f7.f7.f7.f7.f7)
   refine dK aal (fun W hW => (Kp.h hW).right.f6.f6.f6.f6.f6.f6) ?_
   refine dS 18 O aal (fun _ => iJ (zl := [.pointer none, .pointer none, .pointer none, .map none, .int .i64 0, .bool false, .int .i64 0, .int .i64 0, .int .i64 0, .int .i64 0, .bool false]) (pl := [(0, 1), (1, 1), (2, 1), (3, 1), (4, 1), (5, 1), (6, 1), (7, 1), (8, 1), (9, 1), (10, 1)]) [_, _, _, _, _, _, _, _, _, _, _] aS qR O (fun w => by kernel_rfl) O (.on (.on (.on (.on (.on (.zero (zs := [.bool false]) O (.zero (zs := [.int .i64 0]) O (.zero (zs := [.int .i64 0]) O (.zero (zs := [.int .i64 0]) O (.zero (zs := [.int .i64 0]) O (.zero (zs := [.bool false]) O .nil))))))))))) O) ?_
   refine iG 19 O aal O (dJ 20 O aal 0 ay O aY O ?_)
   refine dF 21 O (by kernel_rfl) (dM 0 (l' := [_, _, _, _, _, _, _, _, _, _, _, _, _, _, _, _, _, _, _, _, _, _, _, _, _, _, _, _, _, _, _, _, _, _]) (us := [_, _, _, _, _, _, _, _, _, _, _]) H70.f5 aY O O O (aJ (aJ (aJ (aJ (aJ (aJ (aJ (aJ (aJ (aJ (aJ dn))))))))))) O O) ?_
   rintro _ w71 H71
   have aam := V.kp (H71.f7.f7.f7.f7.f7.f7.f7)
   refine gU aam (by kernel_rfl) ?_
   refine lJ (aU (aF (jU O O (mX O O (bM 13 ay O aT O (aQ (iw 13 H71 aT) ?_))))))
   rintro _ w72 H72
   refine dV O (bM 14 ay O aT O (aQ (iw 14 H72 aT) ?_))
   rintro _ w73 H73
   refine dV O (bM 15 ay O aj O (aQ (iw 15 H73 aj) ?_))
   rintro _ w74 H74
   refine bT (oU (.inr O) results111 ?_)
   have akO := H74.f5
   have akP := akO.AZ
   exact ⟨_, _, _, _, _, akP.f4.f6.f3.f6.f6.f7.f7⟩
theorem V.JM {c : rC} {u : List Value} (H : V w0 w F) (hu : (u.all fun x => x.oneCell') = true) : V w0 w (AY false c u • F) := by
  unfold AY
  rw [if_neg (by decide)]
  exact H.oQ hu
theorem DT {inn : Bool} {c : rC} {u : List Value} (H : V w0 w (AY inn c u • F)) : (u.all fun x => x.oneCell') = true := by
  unfold AY at H
  cases inn with
  | true =>
    rw [if_pos rfl] at H
    obtain ⟨⟨pb, pr, pw, pt, pm⟩, H⟩ := H.qY
    obtain ⟨h, _⟩ := H.flat.fact
    rw [h]; rfl
  | false =>
    rw [if_neg (by decide)] at H
    exact H.fact.1
theorem V.ahR {pb pr pw pt pm : Nat} {c : rC} (H : V w0 w (jF pb c.L c.pt c.mark • gY pr c.E c.at_ • gJ pw (.cells #[.int .i64 c.place, .map (some pt)] 122 (0, 0)) • jv yx pt (zJ c.tx) • Ci pm c.un • F)) : V w0 w (AY true c (Wq pb pr pw pm c) • F) := by
  unfold AY
  rw [if_pos rfl]
  exact V.kT (pb, pr, pw, pt, pm) (V.deep (V.oQ rfl (H.of_eq (by unfold YM; simp only [dY]))))
theorem V.was {c : rC} {u : List Value} (H : V w0 w (AY true c u • F)) : ∃ pb pr pw pt pm, u = Wq pb pr pw pm c ∧ V w0 w (jF pb c.L c.pt c.mark • gY pr c.E c.at_ • gJ pw (.cells #[.int .i64 c.place, .map (some pt)] 122 (0, 0)) • jv yx pt (zJ c.tx) • Ci pm c.un • F) := by
  unfold AY at H
  rw [if_pos rfl] at H
  obtain ⟨⟨pb, pr, pw, pt, pm⟩, H⟩ := H.qY
  obtain ⟨h, H⟩ := H.flat.fact
  exact ⟨pb, pr, pw, pt, pm, h, H.of_eq (by unfold YM; simp only [dY])⟩
theorem V.PE {pb pr pw pt pm ph bl : Nat} {u0 u1 u2 u3 u4 u5 u6 u7 u8 u9 ua : Value} (h1 : qE s) (hp : s.put = []) (H : V w0 w (gJ e (.cells (.pointer (some ⟨pb, 0, none⟩) :: .pointer (some ⟨pr, 0, none⟩) :: .pointer (some ⟨pw, 0, none⟩) :: .map (some pm) :: .int .i64 s.c.mode :: .bool s.c.over :: .int .i64 s.c.last :: .int .i64 s.c.fr :: .int .i64 s.c.to :: .int .i64 s.c.res :: .bool s.c.run :: .pointer (some ⟨ph, 0, none⟩) :: .pointer (some ⟨bl, 0, none⟩) :: .bool s.given :: .bool s.minus :: .int .i64 s.arg :: .bool s.inn :: u0 :: u1 :: u2 :: u3 :: u4 :: u5 :: u6 :: u7 :: u8 :: u9 :: ua :: .int .i64 s.cls :: .bool s.killed :: .bool s.mM :: .bool s.argues :: .bool s.whole :: .slice none 0 0 :: []).toArray 82 (0, 0)) • jF pb s.c.L s.c.pt s.c.mark • gY pr s.c.E s.c.at_ • gJ pw (.cells #[.int .i64 s.c.place, .map (some pt)] 122 (0, 0)) • jv yx pt (zJ s.c.tx) • Ci pm s.c.un • jZ ph s.hl s.base s.most • gJ bl (.cells #[.int .i64 s.lI] 161 (0, 0)) • AY s.inn s.was [u0, u1, u2, u3, u4, u5, u6, u7, u8, u9, ua] • F)) : V w0 w (dZ e s • F) := by
  refine V.ji (pb := pb) (pr := pr) (pw := pw) (pt := pt) (pm := pm) (ph := ph) (bl := bl) (u0 := u0) (u1 := u1) (u2 := u2) (u3 := u3) (u4 := u4) (u5 := u5) (u6 := u6) (u7 := u7) (u8 := u8) (u9 := u9) (ua := ua) (pv := .slice none 0 0) (es := []) h1 (by rw [hp]; rfl) ?_
  rw [hp]
  exact (H.xB none).of_eq (by unfold QT; ac_rfl)
theorem V.YQ {pb pr pw pt pm ph bl : Nat} {u0 u1 u2 u3 u4 u5 u6 u7 u8 u9 ua : Value} (h1 : qE s) (hp : s.put = []) (hi : s.inn = false) (H : V w0 w (gJ e (.cells (.pointer (some ⟨pb, 0, none⟩) :: .pointer (some ⟨pr, 0, none⟩) :: .pointer (some ⟨pw, 0, none⟩) :: .map (some pm) :: .int .i64 s.c.mode :: .bool s.c.over :: .int .i64 s.c.last :: .int .i64 s.c.fr :: .int .i64 s.c.to :: .int .i64 s.c.res :: .bool s.c.run :: .pointer (some ⟨ph, 0, none⟩) :: .pointer (some ⟨bl, 0, none⟩) :: .bool s.given :: .bool s.minus :: .int .i64 s.arg :: .bool false :: u0 :: u1 :: u2 :: u3 :: u4 :: u5 :: u6 :: u7 :: u8 :: u9 :: ua :: .int .i64 s.cls :: .bool s.killed :: .bool s.mM :: .bool s.argues :: .bool s.whole :: .slice none 0 0 :: []).toArray 82 (0, 0)) • jF pb s.c.L s.c.pt s.c.mark • gY pr s.c.E s.c.at_ • gJ pw (.cells #[.int .i64 s.c.place, .map (some pt)] 122 (0, 0)) • jv yx pt (zJ s.c.tx) • Ci pm s.c.un • jZ ph s.hl s.base s.most • gJ bl (.cells #[.int .i64 s.lI] 161 (0, 0)) • F)) (hu : ([u0, u1, u2, u3, u4, u5, u6, u7, u8, u9, ua].all fun x => x.oneCell') = true := by rfl) : V w0 w (dZ e s • F) := by
  refine V.PE (pb := pb) (pr := pr) (pw := pw) (pt := pt) (pm := pm) (ph := ph) (bl := bl) (u0 := u0) (u1 := u1) (u2 := u2) (u3 := u3) (u4 := u4) (u5 := u5) (u6 := u6) (u7 := u7) (u8 := u8) (u9 := u9) (ua := ua) h1 hp ?_
  rw [hi]
  exact (H.JM (c := s.was) (u := [u0, u1, u2, u3, u4, u5, u6, u7, u8, u9, ua]) hu).of_eq (by ac_rfl)
theorem V.acZ {pb pr pw pt pm ph bl : Nat} {u0 u1 u2 u3 u4 u5 u6 u7 u8 u9 ua : Value} {pv : Value} {es : List gX} (h1 : qE s) (h2 : es.map gX.says = s.put) (H : V w0 w (QT pv es • gJ e (.cells (.pointer (some ⟨pb, 0, none⟩) :: .pointer (some ⟨pr, 0, none⟩) :: .pointer (some ⟨pw, 0, none⟩) :: .map (some pm) :: .int .i64 s.c.mode :: .bool s.c.over :: .int .i64 s.c.last :: .int .i64 s.c.fr :: .int .i64 s.c.to :: .int .i64 s.c.res :: .bool s.c.run :: .pointer (some ⟨ph, 0, none⟩) :: .pointer (some ⟨bl, 0, none⟩) :: .bool s.given :: .bool s.minus :: .int .i64 s.arg :: .bool s.inn :: u0 :: u1 :: u2 :: u3 :: u4 :: u5 :: u6 :: u7 :: u8 :: u9 :: ua :: .int .i64 s.cls :: .bool s.killed :: .bool s.mM :: .bool s.argues :: .bool s.whole :: pv :: []).toArray 82 (0, 0)) • jF pb s.c.L s.c.pt s.c.mark • gY pr s.c.E s.c.at_ • gJ pw (.cells #[.int .i64 s.c.place, .map (some pt)] 122 (0, 0)) • jv yx pt (zJ s.c.tx) • Ci pm s.c.un • jZ ph s.hl s.base s.most • gJ bl (.cells #[.int .i64 s.lI] 161 (0, 0)) • AY s.inn s.was [u0, u1, u2, u3, u4, u5, u6, u7, u8, u9, ua] • F)) : V w0 w (dZ e s • F) := by
  refine V.ji (pb := pb) (pr := pr) (pw := pw) (pt := pt) (pm := pm) (ph := ph) (bl := bl) (u0 := u0) (u1 := u1) (u2 := u2) (u3 := u3) (u4 := u4) (u5 := u5) (u6 := u6) (u7 := u7) (u8 := u8) (u9 := u9) (ua := ua) (pv := pv) (es := es) h1 h2 ?_
  have hl : s.put.length = es.length := by rw [← h2]; simp
  rw [hl]
  exact H.of_eq (by unfold QT; ac_rfl)
theorem ac0 : iK [] [] = 0 := rfl
theorem WH (hl : List wY) (l : List Int) (E : List (List Int)) (a : Nat) (m : Int) : YN hl (rC.fresh l E a hl.length m) := ⟨by simp [rC.fresh], by simp [rC.fresh], by simp [rC.fresh]⟩
theorem UO (hl : List wY) (base most : Int) : qE (bQ.new hl base most) :=
  ⟨WH _ _ _ _ _, by simp [bQ.new], by simp [bQ.new], by simp [bQ.new], by simp [bQ.new, bQ.here, rC.fresh, iK], by simp [bQ.new, rC.fresh]⟩
theorem YR (H : V w0 w (jZ h hl base most • F)) : jf prog 57 #[.pointer (some ⟨h, 0, none⟩)] w fun v w' => ∃ e, v = .tuple #[.pointer (some ⟨e, 0, none⟩), .int .i64 0] ∧ V w0 w' (dZ e (bQ.new hl base most) • jZ h hl base most • F) := by
  refine jE func57 ntmps57 ?_
  refine jg (gW O (tX O (bI O (dX O func109 (zC H) ?_))))
  rintro _ w1 ⟨q1, rfl, H1⟩
  refine aV (kU nK O O) (iR (JF O (fun h1 => ?_)))
  (try simp only [Z] at h1)
  refine gy (jg (aV (iJ (zl := [.int .i64 0]) (pl := [(0, 0), (0, 0), (0, 1)]) [_] underlying161 zeroValue161 O (fun w => by kernel_rfl) O (.zero (zs := []) O (.zero (zs := []) O (.zero (zs := [.int .i64 0]) O .nil))) O) (kV (kK (l := [_]) H1 O O) ?_)))
  rintro _ w2 ⟨b2, rfl, H2⟩
  refine aV (iJ (zl := [.pointer none, .pointer none, .pointer none, .map none, .int .i64 0, .bool false, .int .i64 0, .int .i64 0, .int .i64 0, .int .i64 0, .bool false, .pointer none, .pointer none, .bool false, .bool false, .int .i64 0, .bool false, .pointer none, .pointer none, .pointer none, .map none, .int .i64 0, .bool false, .int .i64 0, .int .i64 0, .int .i64 0, .int .i64 0, .bool false, .int .i64 0, .bool false, .bool false, .bool false, .bool false, .slice none 0 0]) (pl := [(0, 11), (11, 1), (12, 1), (13, 1), (14, 1), (15, 1), (16, 1), (17, 11), (28, 1), (29, 1), (30, 1), (31, 1), (32, 1), (33, 1)]) [_, _, _, _, _, _, _, _, _, _, _, _, _, _, _, _, _, _, _, _, _, _, _, _, _, _, _, _, _, _, _, _, _, _] ay zeroValue82 O (fun w => by kernel_rfl) O (.zero (zs := [.pointer none, .pointer none, .pointer none, .map none, .int .i64 0, .bool false, .int .i64 0, .int .i64 0, .int .i64 0, .int .i64 0, .bool false]) O (.zero (zs := [.pointer none]) O (.on (.zero (zs := [.bool false]) O (.zero (zs := [.bool false]) O (.zero (zs := [.int .i64 0]) O (.zero (zs := [.bool false]) O (.zero (zs := [.pointer none, .pointer none, .pointer none, .map none, .int .i64 0, .bool false, .int .i64 0, .int .i64 0, .int .i64 0, .int .i64 0, .bool false]) O (.zero (zs := [.int .i64 0]) O (.zero (zs := [.bool false]) O (.zero (zs := [.bool false]) O (.zero (zs := [.bool false]) O (.zero (zs := [.bool false]) O (.zero (zs := [.slice none 0 0]) O .nil)))))))))))))) O) ?_
  refine kV (kK (l := [_, _, _, _, _, _, _, _, _, _, _, _, _, _, _, _, _, _, _, _, _, _, _, _, _, _, _, _, _, _, _, _, _, _]) H2 O O) ?_
  rintro _ w3 ⟨b3, rfl, H3⟩
  refine fO O (bI O (dX O func110 (Un H3) ?_))
  rintro _ w4 ⟨p4, rfl, H4⟩
  refine dV O (bM 0 ay O aY O (bM 1 aS O sizeOf73 O (aQ (iw 1 H4.f2 sizeOf73) ?_)))
  rintro _ w5 H5
  refine uS O (bW O (dX O func111 (Jq (E := []) (a := 0) H5.f4.right.f3.f3.f4.f4 (l := []) (fun W _ => gB.nil W _ none 0 (by decide)) (by decide)) ?_))
  rintro _ w6 ⟨qb, qw, qt, qm, qh, H6⟩
  refine uS O (gW O (fP O (MO results57 O O ?_)))
  exact ⟨_, O, V.YQ (s := bQ.new hl base most) (UO _ _ _) O O H6.f7.f9.f8.f8.f8.f8.f9.f9.f9⟩
end
section
variable {w0 w : World} {F : HP} {e p h pr : Nat} {s : bQ} {hl : List wY} {base most m : Int} {v : Value} {l : List Int}
theorem Dq (h : s.inn = false) : s.cZ = { s with inn := true, was := s.c, cls := 0, killed := false, mM := false, argues := false, whole := true, put := [] } := by unfold bQ.cZ; rw [if_neg (by simp [h])]
theorem PG (h : s.inn = true) : s.cZ = s := by unfold bQ.cZ; rw [if_pos h]
theorem aan {G : List (List jL)} {N : List jL} (h : iK G N ≤ 16384) : iK G [] ≤ 16384 := by unfold iK at *; simp at *; omega
theorem WI (h : qE s) (hi : s.inn = false) : qE s.cZ := by
  rw [Dq hi]
  obtain ⟨h1, h2, h3, h4, h5, h6⟩ := h
  exact ⟨h1, fun _ => ⟨h1, aan h5, h6⟩, h3, by simp, aan h5, h6⟩
theorem KN (H : V w0 w (dZ e s • F)) : jf prog 29 #[.pointer (some ⟨e, 0, none⟩)] w fun v w' => v = .int .i64 s.FW ∧ V w0 w' (dZ e s.cZ • F) := by
 refine jE func29 ntmps29 ?_
 refine kH O (aI (bf (bI O (dX O func65 (xk H) ?_))))
 rintro _ _ ⟨rfl, rfl⟩
 refine fO O (oL (aI ?_))
 obtain ⟨xE, yB, yC, y9, yD, yE, yF, yG, xG, vM, vN, vO, vP, vS, vT, vU, vV, vW, vX, vY, iT, dQ, lT, jm⟩ := (H).Jp
 refine aF (mX O O (bM 16 ay O aT O (eH bJ O (jm).get.2 O (fO O (bg O (fun h1 => ?_) (fun h1 => ?_))))))
 ·(try simp only [Z] at h1)
  have hin := h1
  refine jS O (aN (aC (dL results29 O ?_)))
  exact ⟨by unfold bQ.FW; rw [if_pos hin], by rw [PG hin]; exact V.ji iT dQ jm.f11.f11.f11.f11.f11.f11.f11.f11.f11.f11.f11⟩
 ·(try simp only [Z] at h1)
  have hin := h1
  refine bU (aH (aU (bI O (jU O O (dV O (bM 0 ay O aY O (aV (pz 0 (xs := [_, _, _, _, _, _, _, _, _, _, _]) aS O aY O O (jm).get.2 O) (dX O func80 (Wx jm.f6.f6.f6.f6.f6) ?_))))))))
  rintro _ w3 ⟨qb3, qr3, qw3, qt3, qm3, rfl, H3⟩
  refine dV O (bM 16 ay O aT O (aQ (iw 16 H3.f11 aT) ?_))
  rintro _ w4 H4
  refine dV O (bM 17 ay O aY O (aQ (dM 17 (l' := [_, _, _, _, _, _, _, _, _, _, _, _, _, _, _, _, _, _, _, _, _, _, _, _, _, _, _, _, _, _, _, _, _, _]) (us := [_, _, _, _, _, _, _, _, _, _, _]) H4 aY O O O (aJ (aJ (aJ (aJ (aJ (aJ (aJ (aJ (aJ (aJ (aJ dn))))))))))) O O) ?_))
  rintro _ w5 H5
  refine uS O (jU O O (jU O O (mX O O (bM 28 ay O aj O (aQ (iw 28 H5 aj) ?_)))))
  rintro _ w6 H6
  refine dV O (bM 29 ay O aT O (aQ (iw 29 H6 aT) ?_))
  rintro _ w7 H7
  refine dV O (bM 30 ay O aT O (aQ (iw 30 H7 aT) ?_))
  rintro _ w8 H8
  refine dV O (bM 31 ay O aT O (aQ (iw 31 H8 aT) ?_))
  rintro _ w9 H9
  refine dV O (bM 32 ay O aT O (aQ (iw 32 H9 aT) ?_))
  rintro _ w10 pG
  refine dV O (bM 33 ay O dA O (aQ (iw 33 pG dA) ?_))
  rintro _ FK ru
  refine iR (jS O (dL results29 O ?_))
  have Px := ru.f6.f6.f6.f6.f6
  have NV := V.ahR (c := s.c) Px
  exact ⟨by unfold bQ.FW; rw [if_neg (by simp [hin])], by rw [Dq hin]; exact V.PE (Dq hin ▸ WI iT hin) O NV.f10.right.f10.right.f10.right.f9.f9.f9.f9.f9.f9.f9.f9⟩
end
section
variable {w0 w : World} {F : HP} {e p h pr : Nat} {s : bQ} {x : Int} {b : Bool}
theorem Dt (h : qE s) (L : List Int) (pt mk : Int) : qE (s.pR L pt mk) := h
theorem kD (H : V w0 w (dZ e s • F)) : jf prog 30 #[.pointer (some ⟨e, 0, none⟩), .int .i64 x] w fun v w' => v = .int .i64 (s.DL x) ∧ V w0 w' (dZ e (s.wK x) • F) := by
 refine qo func30 ntmps30 ?_
 refine kH O (aI (bI O (dX O func81 (mZ H) ?_)))
 rintro _ _ ⟨rfl, rfl⟩
 refine fO O (bI O (aV (fF O O) (iW O (fun h1 => ?_) (fun h1 => ?_))))
 ·(try simp only [Z] at h1)
  obtain ⟨hin, hpe⟩ := AL h1
  refine bI O (fP O (aC (dL results30 O ?_)))
  rw [hpe]
  exact ⟨by simp [bQ.DL, bQ.wK, hin], by rw [show s.wK x = s from by simp [bQ.DL, bQ.wK, hin]]; exact H⟩
 ·(try simp only [Z] at h1)
  have hin := yA h1
  refine gy (aI ?_)
  obtain ⟨xE, yB, yC, y9, yD, yE, yF, yG, xG, vM, vN, vO, vP, vS, vT, vU, vV, vW, vX, vY, iT, dQ, lT, jm⟩ := (H).Jp
  refine aF (mX O O (bM 0 ay O aY O (bM 0 aS O nX O (eH jX O (jm).get.2 O (bW O (dX O func82 (Um jm.f2) ?_))))))
  rintro _ w3 ⟨rfl, H3⟩
  refine fP O (dL results30 O ?_)
  exact ⟨by simp [bQ.DL, hin], by rw [show s.wK x = s.pR s.c.L (mvP s.c.L.length s.c.pt x) s.c.mark from by simp [bQ.wK, hin]]; exact V.ji (Dt iT _ _ _) dQ H3.f11.f11.f11.f11.f11.f11.f11.f11.f11.f10.f11⟩
theorem KO (H : V w0 w (dZ e s • F)) : jf prog 182 #[.pointer (some ⟨e, 0, none⟩), .int .i64 x] w fun v w' => v = .int .i64 (s.EJ x) ∧ V w0 w' (dZ e (s.FX x) • F) := by
 refine qo func182 ntmps182 ?_
 refine kH O (aI (bI O (dX O func81 (mZ H) ?_)))
 rintro _ _ ⟨rfl, rfl⟩
 refine fO O (bI O (aV (fF O O) (iW O (fun h1 => ?_) (fun h1 => ?_))))
 ·(try simp only [Z] at h1)
  obtain ⟨hin, hpe⟩ := AL h1
  refine bI O (fP O (aC (dL results182 O ?_)))
  rw [hpe]
  exact ⟨by simp [bQ.EJ, bQ.FX, hin], by rw [show s.FX x = s from by simp [bQ.EJ, bQ.FX, hin]]; exact H⟩
 ·(try simp only [Z] at h1)
  have hin := yA h1
  refine gy (aI (bI O (aV (gG O O) (jY O (fun h2 => ?_) (fun h2 => ?_)))))
  ·(try simp only [Z] at h2)
   refine bK (bK (jQ O O (iR (ET (jS O (aC (dL results182 O ?_)))))))
   have hd : s.EJ x = 1 := by unfold bQ.EJ; rw [if_pos hin, if_pos (by omega)]
   exact ⟨by rw [hd], by unfold bQ.FX; rw [hd, if_neg (by decide)]; exact H⟩
  ·(try simp only [Z] at h2)
   refine bF (bW O (bF (aV (gK O O) (iH O O (iW O (fun h3 => ?_) (fun h3 => ?_))))))
   ·(try simp only [Z] at h3)
    refine jS O (aC (dL results182 O ?_))
    have hd : s.EJ x = 1 := by unfold bQ.EJ; rw [if_pos hin, if_pos (by omega)]
    exact ⟨by rw [hd], by unfold bQ.FX; rw [hd, if_neg (by decide)]; exact H⟩
   ·(try simp only [Z] at h3)
    refine gy (aI ?_)
    have hd : s.EJ x = 0 := by unfold bQ.EJ; rw [if_pos hin, if_neg (by omega)]
    obtain ⟨xE, yB, yC, y9, yD, yE, yF, yG, xG, vM, vN, vO, vP, vS, vT, vU, vV, vW, vX, vY, iT, dQ, lT, jm⟩ := (H).Jp
    have harg := iT.2.2.1
    refine aF (jU O O (dV O (bM 13 ay O aT O (aQ (iw 13 jm aT) ?_))))
    rintro _ w3 H3
    refine dV O (bM 31 ay O aT O (aQ (iw 31 H3 aT) ?_))
    rintro _ w4 H4
    refine uS O (mX O O (bM 15 ay O aj O (eH aA O (H4).get.2 O (aV (Ov O O) (aV (Vu O O (by omega)) (bW O (aV (fH O O (by omega)) (aV (mW O O) (dV O (bM 15 ay O aj O (aQ (iw 15 H4 aj) ?_)))))))))))
    rintro _ w5 H5
    refine iR (jS O (dL results182 O ?_))
    rw [hd]
    refine ⟨O, ?_⟩
    unfold bQ.FX
    rw [if_pos hd]
    exact V.ji (s := { s with given := true, argues := true, arg := min (max s.arg 0 * 10 + x) 1000000 }) ⟨iT.1, iT.2.1, by dsimp only; omega, iT.2.2.2⟩ dQ H5.f11.f11.f11.f11.f11.f11.f11.f11.f11.f11.f11
theorem A8 (H : V w0 w (dZ e s • F)) : jf prog 62 #[.pointer (some ⟨e, 0, none⟩), .int .i64 x] w fun v w' => v = .int .i64 (s.yw x) ∧ V w0 w' (dZ e (s.zH x) • F) := by
 refine qo func62 ntmps62 ?_
 refine kH O (aI (bI O (dX O func81 (mZ H) ?_)))
 rintro _ _ ⟨rfl, rfl⟩
 refine fO O (bI O (aV (fF O O) (iW O (fun h1 => ?_) (fun h1 => ?_))))
 ·(try simp only [Z] at h1)
  obtain ⟨hin, hpe⟩ := AL h1
  refine bI O (fP O (aC (dL results62 O ?_)))
  rw [hpe]
  exact ⟨by simp [bQ.yw, bQ.zH, hin], by rw [show s.zH x = s from by simp [bQ.yw, bQ.zH, hin]]; exact H⟩
 ·(try simp only [Z] at h1)
  have hin := yA h1
  refine gy (aI (bI O (aV (gG O O) (jY O (fun h2 => ?_) (fun h2 => ?_)))))
  ·(try simp only [Z] at h2)
   refine bK (bK (jQ O O (iR (ET (jS O (aC (dL results62 O ?_)))))))
   have hd : s.yw x = 1 := by unfold bQ.yw; rw [if_pos hin, if_pos (by omega)]
   exact ⟨by rw [hd], by unfold bQ.zH; rw [hd, if_neg (by decide)]; exact H⟩
  ·(try simp only [Z] at h2)
   refine bF (bW O (bF (aV (gK O O) (iH O O (iW O (fun h3 => ?_) (fun h3 => ?_))))))
   ·(try simp only [Z] at h3)
    refine jS O (aC (dL results62 O ?_))
    have hd : s.yw x = 1 := by unfold bQ.yw; rw [if_pos hin, if_pos (by omega)]
    exact ⟨by rw [hd], by unfold bQ.zH; rw [hd, if_neg (by decide)]; exact H⟩
   ·(try simp only [Z] at h3)
    refine gy (aI ?_)
    have hd : s.yw x = 0 := by unfold bQ.yw; rw [if_pos hin, if_neg (by omega)]
    obtain ⟨xE, yB, yC, y9, yD, yE, yF, yG, xG, vM, vN, vO, vP, vS, vT, vU, vV, vW, vX, vY, iT, dQ, lT, jm⟩ := (H).Jp
    refine aF (jU O O (dV O (bM 0 ay O aY O (bM 4 aS O aj O (aQ (iw 4 jm aj) ?_)))))
    rintro _ w3 H3
    refine iR (jS O (dL results62 O ?_))
    rw [hd]
    refine ⟨O, ?_⟩
    unfold bQ.zH
    rw [if_pos hd]
    exact V.ji (s := { s with c := { s.c with mode := x } }) iT dQ H3.f11.f11.f11.f11.f11.f11.f11.f11.f11.f11.f11
theorem Ei (H : V w0 w (dZ e s • F)) : jf prog 192 #[.pointer (some ⟨e, 0, none⟩), .bool b] w fun v w' => v = .int .i64 s.AX ∧ V w0 w' (dZ e (s.Pj b) • F) := by
 refine qo func192 ntmps192 ?_
 refine kH O (aI (bI O (dX O func81 (mZ H) ?_)))
 rintro _ _ ⟨rfl, rfl⟩
 refine fO O (bI O (aV (fF O O) (iW O (fun h1 => ?_) (fun h1 => ?_))))
 ·(try simp only [Z] at h1)
  obtain ⟨hin, hpe⟩ := AL h1
  refine bI O (fP O (aC (dL results192 O ?_)))
  rw [hpe]
  exact ⟨by simp [bQ.Pj, bQ.AX, hin], by rw [show s.Pj b = s from by simp [bQ.Pj, bQ.AX, hin]]; exact H⟩
 ·(try simp only [Z] at h1)
  have hin := yA h1
  refine gy (aI ?_)
  obtain ⟨xE, yB, yC, y9, yD, yE, yF, yG, xG, vM, vN, vO, vP, vS, vT, vU, vV, vW, vX, vY, iT, dQ, lT, jm⟩ := (H).Jp
  refine aF (jU O O (dV O (bM 0 ay O aY O (bM 5 aS O aT O (aQ (iw 5 jm aT) ?_)))))
  rintro _ w3 H3
  refine iR (jS O (dL results192 O ?_))
  exact ⟨by simp [bQ.AX, hin], by unfold bQ.Pj; rw [if_pos hin]; exact V.ji (s := { s with c := { s.c with over := b } }) iT dQ H3.f11.f11.f11.f11.f11.f11.f11.f11.f11.f11.f11⟩
theorem UQ (H : V w0 w (dZ e s • F)) : jf prog 72 #[.pointer (some ⟨e, 0, none⟩)] w fun v w' => v = .int .i64 s.count ∧ V w0 w' (dZ e s • F) := by
 refine jE func72 ntmps72 ?_
 refine kH O (aI (bf (bI O (dX O func65 (xk H) ?_))))
 rintro _ _ ⟨rfl, rfl⟩
 refine fO O (oL (aI ?_))
 obtain ⟨xE, yB, yC, y9, yD, yE, yF, yG, xG, vM, vN, vO, vP, vS, vT, vU, vV, vW, vX, vY, iT, dQ, lT, jm⟩ := (H).Jp
 have harg := iT.2.2.1
 refine aF (mX O O (bM 13 ay O aT O (eH bJ O (jm).get.2 O (aV (jR O) (fO O (bg O (fun h1 => ?_) (fun h1 => ?_)))))))
 ·(try simp only [Z] at h1)
  have hg := h1
  refine jS O (aN (aC (dL results72 O ?_)))
  have Uu := jm.f11.f11.f11.f11.f11.f11.f11.f11.f11.f11.f11
  have Rj := V.ji (s := s) iT dQ Uu
  exact ⟨by unfold bQ.count; simp only [*]; first | rfl | (split <;> simp_all <;> omega) | simp_all, Rj⟩
 ·(try simp only [Z] at h1)
  have hg := h1
  refine bU (aH (aU (bI O (dV O (bM 15 ay O aj O (eH aA O (jm).get.2 O (tX O (bI O (aV (gG O O) (iW O (fun h2 => ?_) (fun h2 => ?_)))))))))))
  ·(try simp only [Z] at h2)
   refine aF (tX O (bI O (dV O (bM 14 ay O aT O (eH bJ O (jm).get.2 O (iW O (fun h3 => ?_) (fun h3 => ?_)))))))
   ·(try simp only [Z] at h3)
    refine bI O (aV (agA O (by omega)) (fP O (aC (dL results72 O ?_))))
    have Ho7 := jm.f11.f11.f11.f11.f11.f11.f11.f11.f11.f11.f11
    have Hc8 := V.ji (s := s) iT dQ Ho7
    exact ⟨by unfold bQ.count; simp only [*]; first | rfl | (split <;> simp_all <;> omega) | simp_all, Hc8⟩
   ·(try simp only [Z] at h3)
    refine gy (bI O (fP O (dL results72 O ?_)))
    have UC := jm.f11.f11.f11.f11.f11.f11.f11.f11.f11.f11.f11
    have UD := V.ji (s := s) iT dQ UC
    exact ⟨by unfold bQ.count; simp only [*]; first | rfl | (split <;> simp_all <;> omega) | simp_all, UD⟩
  ·(try simp only [Z] at h2)
   refine gy (aI (bI O (dV O (bM 14 ay O aT O (eH bJ O (jm).get.2 O (iW O (fun h4 => ?_) (fun h4 => ?_)))))))
   ·(try simp only [Z] at h4)
    refine bI O (aV (agA O (by omega)) (fP O (aC (dL results72 O ?_))))
    have YH := jm.f11.f11.f11.f11.f11.f11.f11.f11.f11.f11.f11
    have YI := V.ji (s := s) iT dQ YH
    exact ⟨by unfold bQ.count; simp only [*]; first | rfl | (split <;> simp_all <;> omega) | simp_all, YI⟩
   ·(try simp only [Z] at h4)
    refine gy (bI O (fP O (dL results72 O ?_)))
    have akQ := jm.f11.f11.f11.f11.f11.f11.f11.f11.f11.f11.f11
    have akR := V.ji (s := s) iT dQ akQ
    exact ⟨by unfold bQ.count; simp only [*]; first | rfl | (split <;> simp_all <;> omega) | simp_all, akR⟩
theorem UR (H : V w0 w (dZ e s • F)) : jf prog 73 #[.pointer (some ⟨e, 0, none⟩)] w fun v w' => v = .bool s.given ∧ V w0 w' (dZ e s • F) := by
  refine jE func73 ntmps73 ?_
  refine kH O (bI O (dX O func65 (xk H) ?_))
  rintro _ _ ⟨rfl, rfl⟩
  refine aV (jR O) ?_
  obtain ⟨xE, yB, yC, y9, yD, yE, yF, yG, xG, vM, vN, vO, vP, vS, vT, vU, vV, vW, vX, vY, iT, dQ, lT, jm⟩ := (H).Jp
  refine xsE O (fun h1 => ?_)
  (try simp only [Z] at h1)
  refine bF (bW O (bF (dV O (bF (bM 13 ay O aT O (bF (eH bJ O (jm).get.2 O (jQ O O (fP O (dL results73 O ?_))))))))))
  have Uu := jm.f11.f11.f11.f11.f11.f11.f11.f11.f11.f11.f11
  have Rj := V.ji (s := s) iT dQ Uu
  exact ⟨O, Rj⟩
theorem pU (H : V w0 w (dZ e s • F)) : jf prog 28 #[.pointer (some ⟨e, 0, none⟩)] w fun v w' => ∃ u, v = .agg (uG u s.c.pt s.c.mark) ∧ V w0 w' (je 21 .i32 u s.c.L • dZ e s • F) := by
 refine jE func28 ntmps28 ?_
 refine jg (kV (iO (l := [_, _, _]) H zeroValue46 O) ?_)
 rintro _ w1 ⟨b1, rfl, H1⟩
 refine rW (bI O (dX O func65 (xk H1.f2) ?_))
 rintro _ _ ⟨rfl, rfl⟩
 refine iR (oL (gy (aI ?_)))
 obtain ⟨xE, yB, yC, y9, yD, yE, yF, yG, xG, vM, vN, vO, vP, vS, vT, vU, vV, vW, vX, vY, iT, dQ, lT, jm⟩ := (H1.f2).Jp
 refine aF (mX O O (bM 0 ay O aY O (bM 0 aS O nX O (eH jX O (jm).get.2 O (dX O func79 (Kt jm.f2) ?_)))))
 rintro _ w4 ⟨u4, rfl, H4⟩
 refine aQ (dM 0 (l' := [_, _, _]) (us := [_, _, _]) H4.f13 sizeOf46 O O O (bG (by first | rfl | exact Rd.one ((H4).aO)) (aJ (aJ dn))) O O) ?_
 rintro _ w5 H5
 refine zkc ?_
 refine wS (.inl O) (Ud results28 O fK O (by rw [acz]; rfl) (H5).get.2) ?_
 have Ho7 := H5.f13.f13.f13.f13.f13.f13.f13.f13.f13.f12.f13
 have Hc8 := V.ji (s := s) iT dQ Ho7
 exact ⟨_, O, Hc8.f2.right.f2⟩
end
end Go.Proofs.YtpdeedplgmbopaaGreatDoor
end
