import Derived.Test.YtpdeedplgmbopaaGreatDoorZ4
import Derived.Test.YtpdeedplgmbopaaGreatDoorZ13
import Derived.Test.YtpdeedplgmbopaaGreatDoorZ17
import Derived.Test.YtpdeedplgmbopaaGreatDoorZ14
import Derived.Test.YtpdeedplgmbopaaGreatDoorZ16
import Derived.Test.YtpdeedplgmbopaaGreatDoorZ10
import Derived.Test.YtpdeedplgmbopaaGreatDoorZ15
import Derived.Test.YtpdeedplgmbopaaGreatDoorZ11
import Derived.Test.YtpdeedplgmbopaaGreatDoorZ12
import Derived.Test.YtpdeedplgmbopaaGreatDoorZ9
set_option linter.unusedSimpArgs false
set_option linter.unusedVariables false
/- Texts of mine, joined, their names in short: VD Atom2 EdCl VDo VB VGo. -/
section
namespace Go.Proofs.YtpdeedplgmbopaaGreatDoor
open Go.RowKit
open _root_.Go.Proofs.Tryz
abbrev VC (c m e : Nat) (name : ByteArray) (kv : Value) (n : Int) (g : Bool) (lv : Value) (p : Int) : HP := dW c (.cells #[.pointer (some ⟨m, 0, none⟩), .pointer (some ⟨e, 0, none⟩), .string name, kv, .int .i64 n, .bool g, lv, .int .i64 p] 130 (0, 0))
namespace bC
variable (s : bC)
def wE : Prop := s.c.mode = 2 ∧ 0 < s.c.L.length ∧ s.c.pt = s.c.L.length
instance : Decidable s.wE := by unfold wE; infer_instance
def GL : Int := if s.wE then s.Dy ((s.c.L.length : Int) - 1) else 0
def GN : bC := if s.wE then s.qK ((s.c.L.length : Int) - 1) else s
end bC
section
variable {w0 w : World} {F : HP} {c m e : Nat} {s : bC} {name : ByteArray} {kv lv : Value} {n p : Int} {g : Bool}
theorem PI (H : V w0 w (VC c m e name kv n g lv p • fF e s • F)) : iI prog 75 #[.pointer (some ⟨c, 0, none⟩)] w fun v w' => v = .int .i64 s.GL ∧ V w0 w' (VC c m e name kv n g lv p • fF e s.GN • F) := by
 have hl9 : s.c.L.length ≤ 1024 := by
  obtain ⟨pb, pr, pw, pt, pm, ph, bl, pv, es, u0, u1, u2, u3, u4, u5, u6, u7, u8, u9, ua, h, _, _, H2⟩ := H.f2.Ii
  obtain ⟨a, c, xs, f, t, h1, h2, h3, h4, h5, h6, h7, _⟩ := H2.f2.buf
  exact h4
 refine jr func75 ntmps75 ?_
 refine jR O (bT O (dL O (bJ 1 bW O sizeOf37 O (fV kJ O (H).get.2 O (dS O func28 (xE H.f2) ?_)))))
 rintro _ w1 ⟨u1, rfl, H1⟩
 refine jV (iy (l := [_, _, _]) H1 zeroValue46 O) ?_
 rintro _ w2 ⟨b2, rfl, H2⟩
 refine aI (dw 0 (l' := [_, _, _]) (us := [_, _, _]) H2 sizeOf46 O O O (aX (by first | rfl | exact Rd.one ((H2.f2).aQ)) (aG (aG bQ))) O O) ?_
 rintro _ w3 H3
 refine qR (bT O (dL O (bJ 1 bW O sizeOf37 O (fV kJ O (H3.f4).get.2 O (dS O func23 (PG H3.f3) ?_)))))
 rintro _ w4 ⟨u4, ks4, us4, sv4, rfl, H4⟩
 refine Z (zZ 3 jq O O (dA aH O) O O) (Z (dX O O) (jJ O (fun h1 => ?_) (fun h1 => ?_)))
 ·(try simp only [aA] at h1)
  refine bg (bJ 0 jF O dh O (bg (fV aj O (H4.f6).get.2 O (bg (Z (jy ((H4.f7).aQ) aj O) (bg (Z (dY O O) (jh O O (jJ O (fun h2 => ?_) (fun h2 => ?_))))))))))
  ·(try simp only [aA] at h2)
   refine bg (bJ 1 jF O ay O (bg (fV aH O (H4.f6).get.2 O (bg (bJ 0 jF O dh O (bg (fV aj O (H4.f6).get.2 O (bg (Z (jy ((H4.f7).aQ) aj O) (bg (Z (dX O O) (jh O O (jL O (fun h3 => ?_) (fun h3 => ?_))))))))))))))
   ·(try simp only [aA] at h3)
    refine aO ?_
    have adg := H4.drew
    have GR := V.kp (adg.f8.f8.f8.f8.f8.f8.f8.f8)
    refine y9 [3, 5] GR O (iU 0 O GR O (jY 1 O GR O (iq 2 O GR 1 bW O sizeOf37 O (jQ 3 O GR (fun W hW => kF kJ O ((Kp.h hW).f8).get.2 O) (iq 4 O GR 0 jF O dh O (jQ 5 O GR (fun W hW => kF aj O ((Kp.h hW).f6).get.2 O) (jB 6 O GR (fun _ => jy ((adg.f7).aQ) aj O) (jB 7 O GR (fun _ => iZ O O (by omega)) (nD 8 O (xW O func30 (DU adg.f5)) ?_)))))))))
    rintro _ w5 ⟨rfl, H5⟩
    have Fj := V.kp (H5.f8.f8.f8.f8.f8.f8.f8.f8)
    refine gU Fj (by kernel_rfl) ?_
    refine jB 9 O Fj (fun _ => dR O) (ru (aW (nO (aB (dK results75 O ?_)))))
    have hp : s.wE := by unfold bC.wE; omega
    exact ⟨by unfold bC.GL; rw [if_pos hp], by unfold bC.GN; rw [if_pos hp]; exact H5.f2.right.f2.right.f2.right.f2.right.f2.right.f2.right.f2⟩
   ·(try simp only [aA] at h3)
    refine gQ (jP O (dK results75 O ?_))
    have hp : ¬ s.wE := by unfold bC.wE; omega
    exact ⟨by unfold bC.GL; rw [if_neg hp], by unfold bC.GN; rw [if_neg hp]; exact H4.right.right.right.right.f2.right.f2.right.f2⟩
  ·(try simp only [aA] at h2)
   refine bF (bF (bF (bF (bF (bF (ig O O (iL (qH (gQ (jP O (dK results75 O ?_)))))))))))
   have hp : ¬ s.wE := by unfold bC.wE; omega
   exact ⟨by unfold bC.GL; rw [if_neg hp], by unfold bC.GN; rw [if_neg hp]; exact H4.right.right.right.right.f2.right.f2.right.f2⟩
 ·(try simp only [aA] at h1)
  refine bF (bF (bF (bF (ig O O (bP O (bF (bF (bF (bF (bF (bF (ig O O (iL (qH (gQ (jP O (dK results75 O ?_)))))))))))))))))
  have hp : ¬ s.wE := by unfold bC.wE; omega
  exact ⟨by unfold bC.GL; rw [if_neg hp], by unfold bC.GN; rw [if_neg hp]; exact H4.right.right.right.right.f2.right.f2.right.f2⟩
theorem PK (H : V w0 w F) : iI prog 125 #[.string name] w fun v w' => v = .tuple #[.bool (decide (zB name ∨ rV name)), .bool (decide (zB name))] ∧ V w0 w' F := by
  refine jr func125 ntmps125 ?_
  refine iV (iJ O (vY O (bT O (iL (aY ?_)))))
  refine lu [(4, _)] (fun (_ : Unit) => [(5, .bool (decide (zB name)))]) (fun (_ : Unit) W => V w0 W F) mG ?_ ?_
  · rintro _ w1 HJ
    dsimp only [List.cons_append, List.nil_append]
    refine bH O (fun h1 => ?_) (fun h1 => ?_)
    · (try simp only [aA] at h1)
      refine iV (iJ O (fC O (aT (aB (P5 results125 O O ?_)))))
      have ht : zB name := by assumption
      exact ⟨by rw [decide_eq_true ht, decide_eq_true (Or.inl ht)], HJ⟩
    · (try simp only [aA] at h1)
      refine lu [] (fun (_ : Unit) => [(10, .bool (decide (rV name)))]) (fun (_ : Unit) W => V w0 W F) (Sub.nil _) ?_ ?_
      · rintro _ w2 HK
        dsimp only [List.cons_append, List.nil_append]
        refine bH O (fun h2 => ?_) (fun h2 => ?_)
        · (try simp only [aA] at h2)
          refine iV (iJ O (fC O (aT (aB (P5 results125 O O ?_)))))
          have ht : ¬ zB name := by assumption
          have hc : rV name := by assumption
          exact ⟨by rw [decide_eq_false ht, decide_eq_true (Or.inr hc)], HK⟩
        · (try simp only [aA] at h2)
          refine dn (aK (aW (iV (iJ O (fC O (P5 results125 O O ?_))))))
          have ht : ¬ zB name := by assumption
          have hc : ¬ rV name := by assumption
          exact ⟨by rw [decide_eq_false ht, decide_eq_false (fun h => h.elim ht hc)], HK⟩
      · skip
        refine iV (Z (fJ O O) (fP O (bH O (fun h3 => ?_) (fun h3 => ?_))))
        · (try simp only [aA] at h3)
          refine dn ?_
          refine dF (()) ?_ ?_ ?_
          · exact (Sub.jG O (by first | exact rU (beq_iff_eq.2 (by assumption)) (by unfold rV; first | exact .inl (by assumption) | exact .inr (.inl (by assumption)) | exact .inr (.inr (.inl (by assumption))) | exact .inr (.inr (.inr (.inl (by assumption)))) | exact .inr (.inr (.inr (.inr (by assumption))))) | exact congrArg Value.bool (by rw [Bool.eq_iff_iff, decide_eq_true_iff, beq_iff_eq]; unfold rV; exact ⟨fun h => .inr (.inr (.inr (.inr h))), fun h => by rcases h with h | h | h | h | h <;> first | exact h | exact absurd h (by assumption)⟩)) (Sub.nil _))
          · exact (Sub.nil _)
          · (try dsimp only)
            first | done | exact HJ
        · (try simp only [aA] at h3)
          refine iV (Z (fJ O O) (fP O (bH O (fun h4 => ?_) (fun h4 => ?_))))
          · (try simp only [aA] at h4)
            refine dn ?_
            refine dF (()) ?_ ?_ ?_
            · exact (Sub.jG O (by first | exact rU (beq_iff_eq.2 (by assumption)) (by unfold rV; first | exact .inl (by assumption) | exact .inr (.inl (by assumption)) | exact .inr (.inr (.inl (by assumption))) | exact .inr (.inr (.inr (.inl (by assumption)))) | exact .inr (.inr (.inr (.inr (by assumption))))) | exact congrArg Value.bool (by rw [Bool.eq_iff_iff, decide_eq_true_iff, beq_iff_eq]; unfold rV; exact ⟨fun h => .inr (.inr (.inr (.inr h))), fun h => by rcases h with h | h | h | h | h <;> first | exact h | exact absurd h (by assumption)⟩)) (Sub.nil _))
            · exact (Sub.nil _)
            · (try dsimp only)
              first | done | exact HJ
          · (try simp only [aA] at h4)
            refine iV (Z (fJ O O) (fP O (bH O (fun h5 => ?_) (fun h5 => ?_))))
            · (try simp only [aA] at h5)
              refine dn ?_
              refine dF (()) ?_ ?_ ?_
              · exact (Sub.jG O (by first | exact rU (beq_iff_eq.2 (by assumption)) (by unfold rV; first | exact .inl (by assumption) | exact .inr (.inl (by assumption)) | exact .inr (.inr (.inl (by assumption))) | exact .inr (.inr (.inr (.inl (by assumption)))) | exact .inr (.inr (.inr (.inr (by assumption))))) | exact congrArg Value.bool (by rw [Bool.eq_iff_iff, decide_eq_true_iff, beq_iff_eq]; unfold rV; exact ⟨fun h => .inr (.inr (.inr (.inr h))), fun h => by rcases h with h | h | h | h | h <;> first | exact h | exact absurd h (by assumption)⟩)) (Sub.nil _))
              · exact (Sub.nil _)
              · (try dsimp only)
                first | done | exact HJ
            · (try simp only [aA] at h5)
              refine iV (Z (fJ O O) (fP O (bH O (fun h6 => ?_) (fun h6 => ?_))))
              · (try simp only [aA] at h6)
                refine dn ?_
                refine dF (()) ?_ ?_ ?_
                · exact (Sub.jG O (by first | exact rU (beq_iff_eq.2 (by assumption)) (by unfold rV; first | exact .inl (by assumption) | exact .inr (.inl (by assumption)) | exact .inr (.inr (.inl (by assumption))) | exact .inr (.inr (.inr (.inl (by assumption)))) | exact .inr (.inr (.inr (.inr (by assumption))))) | exact congrArg Value.bool (by rw [Bool.eq_iff_iff, decide_eq_true_iff, beq_iff_eq]; unfold rV; exact ⟨fun h => .inr (.inr (.inr (.inr h))), fun h => by rcases h with h | h | h | h | h <;> first | exact h | exact absurd h (by assumption)⟩)) (Sub.nil _))
                · exact (Sub.nil _)
                · (try dsimp only)
                  first | done | exact HJ
              · (try simp only [aA] at h6)
                refine aC (Z (fJ O O) (iJ O (bY ?_)))
                refine dF (()) ?_ ?_ ?_
                · exact (Sub.jG O (by first | exact rU (beq_iff_eq.2 (by assumption)) (by unfold rV; first | exact .inl (by assumption) | exact .inr (.inl (by assumption)) | exact .inr (.inr (.inl (by assumption))) | exact .inr (.inr (.inr (.inl (by assumption)))) | exact .inr (.inr (.inr (.inr (by assumption))))) | exact congrArg Value.bool (by rw [Bool.eq_iff_iff, decide_eq_true_iff, beq_iff_eq]; unfold rV; exact ⟨fun h => .inr (.inr (.inr (.inr h))), fun h => by rcases h with h | h | h | h | h <;> first | exact h | exact absurd h (by assumption)⟩)) (Sub.nil _))
                · exact (Sub.nil _)
                · (try dsimp only)
                  first | done | exact HJ
  · skip
    refine iV (Z (fJ O O) (fP O (bH O (fun h7 => ?_) (fun h7 => ?_))))
    · (try simp only [aA] at h7)
      refine dn ?_
      refine dF (()) ?_ ?_ ?_
      · exact (Sub.jG O (by first | exact rU (beq_iff_eq.2 (by assumption)) (by unfold zB; first | exact .inl (by assumption) | exact .inr (.inl (by assumption)) | exact .inr (.inr (.inl (by assumption))) | exact .inr (.inr (.inr (by assumption)))) | exact congrArg Value.bool (by rw [Bool.eq_iff_iff, decide_eq_true_iff, beq_iff_eq]; unfold zB; exact ⟨fun h => .inr (.inr (.inr h)), fun h => by rcases h with h | h | h | h <;> first | exact h | exact absurd h (by assumption)⟩)) (Sub.nil _))
      · exact mG
      · (try dsimp only)
        first | done | exact H
    · (try simp only [aA] at h7)
      refine iV (Z (fJ O O) (fP O (bH O (fun h8 => ?_) (fun h8 => ?_))))
      · (try simp only [aA] at h8)
        refine dn ?_
        refine dF (()) ?_ ?_ ?_
        · exact (Sub.jG O (by first | exact rU (beq_iff_eq.2 (by assumption)) (by unfold zB; first | exact .inl (by assumption) | exact .inr (.inl (by assumption)) | exact .inr (.inr (.inl (by assumption))) | exact .inr (.inr (.inr (by assumption)))) | exact congrArg Value.bool (by rw [Bool.eq_iff_iff, decide_eq_true_iff, beq_iff_eq]; unfold zB; exact ⟨fun h => .inr (.inr (.inr h)), fun h => by rcases h with h | h | h | h <;> first | exact h | exact absurd h (by assumption)⟩)) (Sub.nil _))
        · exact mG
        · (try dsimp only)
          first | done | exact H
      · (try simp only [aA] at h8)
        refine iV (Z (fJ O O) (fP O (bH O (fun h9 => ?_) (fun h9 => ?_))))
        · (try simp only [aA] at h9)
          refine dn ?_
          refine dF (()) ?_ ?_ ?_
          · exact (Sub.jG O (by first | exact rU (beq_iff_eq.2 (by assumption)) (by unfold zB; first | exact .inl (by assumption) | exact .inr (.inl (by assumption)) | exact .inr (.inr (.inl (by assumption))) | exact .inr (.inr (.inr (by assumption)))) | exact congrArg Value.bool (by rw [Bool.eq_iff_iff, decide_eq_true_iff, beq_iff_eq]; unfold zB; exact ⟨fun h => .inr (.inr (.inr h)), fun h => by rcases h with h | h | h | h <;> first | exact h | exact absurd h (by assumption)⟩)) (Sub.nil _))
          · exact mG
          · (try dsimp only)
            first | done | exact H
        · (try simp only [aA] at h9)
          refine aC (Z (fJ O O) (iJ O (bY ?_)))
          refine dF (()) ?_ ?_ ?_
          · exact (Sub.jG O (by first | exact rU (beq_iff_eq.2 (by assumption)) (by unfold zB; first | exact .inl (by assumption) | exact .inr (.inl (by assumption)) | exact .inr (.inr (.inl (by assumption))) | exact .inr (.inr (.inr (by assumption)))) | exact congrArg Value.bool (by rw [Bool.eq_iff_iff, decide_eq_true_iff, beq_iff_eq]; unfold zB; exact ⟨fun h => .inr (.inr (.inr h)), fun h => by rcases h with h | h | h | h <;> first | exact h | exact absurd h (by assumption)⟩)) (Sub.nil _))
          · exact mG
          · (try dsimp only)
            first | done | exact H
end
end Go.Proofs.YtpdeedplgmbopaaGreatDoor
end
section
namespace Go.Proofs.YtpdeedplgmbopaaGreatDoor
open Go.RowKit Go.Lib
section
variable {P : Program} {L : List (Nat × Value)} {w0 w : World} {F : HP} {ty : TypeId} {b : Nat} {v d : Int} {t : TypeId}
theorem RJ {u : Value} (hc : w.cell? ⟨b, 0, none⟩ = some u) (hz : w.frozen? ⟨b, 0, none⟩ = false) : (Extern.Atomic.storeT #[.pointer (some ⟨b, 0, none⟩), .int .i64 d]).run P w = .ok Extern.Atomic.none_ (w.setCell ⟨b, 0, none⟩ (.int .i64 d)) := by
  change Sem.run P (do store (← asAddr (.pointer (some ⟨b, 0, none⟩))) (.int .i64 d) .atomic; pure Extern.Atomic.none_) w = _
  simp [asAddr, run_store _ _ _ _ _ (rfl : (Value.int .i64 d).oneCell' = true), hc, hz, Result.andThen]
theorem Xz {f : FuncId} {args : List Operand} {ts : Array TypeId} {fn : Func} (H : V w0 w (dW b (.cells #[.int .i64 v] t (0, 0)) • F)) (ha : FW L args = some [.pointer (some ⟨b, 0, none⟩), .int .i64 d])
    (hf : P.funcs[f]? = some fn) (hname : (fn.name == "runtime.NumGoroutine") = false) (hb : fn.body.isNone = true) (hn : Extern.findNext fn = none) (he : Extern.find fn = some Extern.Atomic.storeT) :
    wH P L (.call ⟨.value (.func f), args.toArray, ts⟩) ty w fun u w' => V w0 w' (dW b (.cells #[.int .i64 d] t (0, 0)) • F) :=
  Y4 ha hf hname hb hn he (RJ (kC H.get.2 rfl) (CY H.get.2)) (H.setCell (i := 0) _)
theorem Lp (H : V w0 w (dW b (.cells #[.int .i64 v] t (0, 0)) • F)) : iI Tryz.prog 123 #[.pointer (some ⟨b, 0, none⟩), .int .i64 d] w fun u w' => V w0 w' (dW b (.cells #[.int .i64 d] t (0, 0)) • F) := by
 refine oN Tryz.func123 Tryz.ntmps123 ?_
 refine aC (nK O O (bJ 0 Tryz.underlying161 O Tryz.sizeOf2 O (bP O (jV (Xz H O Tryz.func159 O O (by kernel_rfl) (by kernel_rfl)) ?_))))
 rintro _ w1 H1
 refine bY (lK (.inr O) Tryz.results123 ?_)
 exact H1
end
end Go.Proofs.YtpdeedplgmbopaaGreatDoor
end
section
namespace Go.Proofs.YtpdeedplgmbopaaGreatDoor
open Go.RowKit
open _root_.Go.Proofs.Tryz
section
variable {w0 w : World} {F : HP} {e : Nat} {s : bC}
theorem MN (H : V w0 w (fF e s • F)) (hi : s.inn = false) : iI prog 70 #[.pointer (some ⟨e, 0, none⟩)] w fun v w' => ∃ q, v = .pointer (some ⟨q, 0, none⟩) ∧ V w0 w' (fF e s • F) := by
 refine jr func70 ntmps70 ?_
 refine jR O (aO (bT O (dS O func65 (rQ H) ?_)))
 rintro _ _ ⟨rfl, rfl⟩
 refine iL (qH (gQ (aO ?_)))
 obtain ⟨yG, yH, yI, yJ, yK, yL, yM, yN, wu, uK, uM, uN, uO, uP, uQ, uS, uT, uU, uV, uX, iD, dG, kW, iO⟩ := (H).Ii
 have hwo := zx (iO.f11)
 simp only [List.all_cons, List.all_nil, Bool.and_true, Bool.and_eq_true] at hwo
 obtain ⟨o0, o1, o2, o3, o4, o5, o6, o7, o8, o9, oa⟩ := hwo
 have hon := (iO.f10).Du
 have hpl : s.put.length ≤ 16384 := by have h9 := iD.2.2.2.2.1; unfold gG at h9; omega
 refine aC (nK O O (Z (dM ah O sizeOf82 O O (iO).get.2) (jV (iy (l := [_, _, _, _, _, _, _, _, _, _, _, _, _, _, _, _, _, _, _, _, _, _, _, _, _, _, _, _, _, _, _, _, _, _]) iO zeroValue82 O) ?_)))
 rintro _ w3 ⟨b3, rfl, H3⟩
 refine aI (dw 0 (l' := [_, _, _, _, _, _, _, _, _, _, _, _, _, _, _, _, _, _, _, _, _, _, _, _, _, _, _, _, _, _, _, _, _, _]) (us := [_, _, _, _, _, _, _, _, _, _, _, _, _, _, _, _, _, _, _, _, _, _, _, _, _, _, _, _, _, _, _, _, _, _]) H3 sizeOf82 O O O (aG (aG (aG (aG (aG (aG (aG (aG (aG (aG (aG (aG (aG (aG (aG (aG (aG (aG (aG (aG (aG (aG (aG (aG (aG (aG (aG (aG (aG (aG (aG (aG (aG (aX (by first | rfl | exact Rd.one ((H3.f10).aQ)) bQ)))))))))))))))))))))))))))))))))) O O) ?_
 rintro _ w4 H4
 refine rZ O (dL O (bJ 0 ah O aU O (Z (pX 0 (xs := [_, _, _, _, _, _, _, _, _, _, _]) aJ O aU O O (H4.f2).get.2 O) (dS O func80 (QZ H4.f7.f7.f7.f7.f7) ?_))))
 rintro _ w5 ⟨qb5, qr5, qw5, qt5, qm5, rfl, H5⟩
 refine bJ 0 ah O aU O (aI (dw 0 (l' := [_, _, _, _, _, _, _, _, _, _, _, _, _, _, _, _, _, _, _, _, _, _, _, _, _, _, _, _, _, _, _, _, _, _]) (us := [_, _, _, _, _, _, _, _, _, _, _]) H5.f11 aU O O O (aG (aG (aG (aG (aG (aG (aG (aG (aG (aG (aG bQ))))))))))) O O) ?_)
 rintro _ w6 H6
 have Hd7 := H6.f5.right
 have Hd8 := Hd7.f2.right
 have Hd9 := Hd8.f2.right
 have aa6 := Hd9.f2.right
 have TS := aa6.f2.right
 refine qR (bT O (dL O (bJ 16 ah O aP O (fV bZ O (TS.f7).get.2 O (jL O (fun h => by exfalso; (try simp only [aA] at h); rw [hi] at h; simp at h) (fun h1 => ?_))))))
 (try simp only [aA] at h1)
 refine gQ (bT O (dL O (bJ 11 ah O sizeOf78 O (fV kR O (TS.f7).get.2 O (dS O func109 (vP TS.f8) ?_)))))
 rintro _ w12 ⟨q12, rfl, wL⟩
 refine bJ 11 ah O sizeOf78 O (aI (eU 11 wL.f3 sizeOf78) ?_)
 rintro _ Qs xZ
 have abb := xZ.f2.right
 refine rZ O (dL O (bJ 33 ah O bM O (fV aV O (abb.f8).get.2 O (dS O func122 (CP abb (fun W HW => (HW.f10).aQ) hon (by omega)) ?_))))
 rintro u15 Qu zI
 refine bJ 33 ah O bM O (aI (fU 33 (l' := [_, _, _, _, _, _, _, _, _, _, _, _, _, _, _, _, _, _, _, _, _, _, _, _, _, _, _, _, _, _, _, _, _, _]) zI.f2 bM O O (by first | rfl | exact Rd.one ((zI).aQ)) O O) ?_)
 rintro _ w16 uY
 have TT := uY.f2.right
 refine zk7 (Z (eP (zl := [.int .i64 0]) (pl := [(0, 0), (0, 0), (0, 1)]) [_] underlying161 zeroValue161 O (fun w => by kernel_rfl) O (.zero (zs := []) O (.zero (zs := []) O (.zero (zs := [.int .i64 0]) O .nil))) O) (jV (jH (l := [_]) TT O O) ?_))
 rintro _ Ym ⟨b18, rfl, Eb⟩
 refine bJ 12 ah O sizeOf79 O (aI (eU 12 Eb.f2 sizeOf79) ?_)
 rintro _ w19 Dl
 refine qR ?_
 have PL := Dl.drew
 have BQ := V.kp (PL.f13.f13.f13.f13.f13.f13.f13.f13.f13.f13.f13.f13.f13)
 refine y9 [1, 5] BQ O (iq 0 O BQ 12 ah O sizeOf79 O (jQ 1 O BQ (fun W hW => kF underlying79 O ((Kp.h hW)).get.2 O) (iU 2 O BQ O (jY 3 O BQ O (iq 4 O BQ 12 ah O sizeOf79 O (jQ 5 O BQ (fun W hW => kF underlying79 O ((Kp.h hW).f9).get.2 O) (nD 6 O (xW O func68 (oQ PL.f10)) ?_)))))))
 rintro _ _ ⟨rfl, rfl⟩
 have zU := V.kp (PL.f13.f13.f13.f13.f13.f13.f13.f13.f13.f13.f13.f13.f13)
 refine eG zU (fun W hW => (Kp.h hW).f13.f13.f13.f13.f13.f13.f13.f13.f13.f13.f13.f13.f13) ?_
 refine nD 7 O (xW O func123 (Lp PL.f2)) ?_
 rintro _ w21 vN
 have E5 := V.kp (vN.f13.f13.f13.f13.f13.f13.f13.f13.f13.f13.f13.f13.f13)
 refine gU E5 (by kernel_rfl) ?_
 refine ru (aW (jP O (dK results70 O ?_)))
 have Zx := vN.f13.f13.f13.f13.f7.f12.f12.f12.f12.f12.f13
 have Zy := V.iF (s := s) iD dG Zx
 exact ⟨_, O, Zy.f2.right.f2.right⟩
end
def abd (w0 : World) (name : ByteArray) (keys : List Int) (n : Int) (g : Bool) (s : bC) (M : VM) (Q : Int → bC → VM → Prop) : Prop := ∀ (F : HP) (W : World) (c m e : Nat) (kv lv : Value), V w0 W (VC c m e name kv n g lv s.c.pt • jW 21 .i32 lv s.c.L • pR m M • fF e s • F) → jE w0 F .i32 kv keys →
  iI prog 124 #[.pointer (some ⟨c, 0, none⟩)] W fun v W' => ∃ x t M', Q x t M' ∧ v = .int .i64 x ∧ V w0 W' (VC c m e name kv n g lv s.c.pt • jW 21 .i32 lv s.c.L • pR m M' • fF e t • F)
def VM.did (M : VM) (name : ByteArray) (keys : List Int) (n x : Int) : VM := if (zB name ∨ rV name) ∧ x = 0 then { M with name := name, keys := keys, n := n, typed := [] } else M
def bC.UG (t : bC) (x : Int) : Int := if x = 0 then t.GN.AQ t.GL else t.AQ x
def bC.ZN (t : bC) (x : Int) : bC := if x = 0 then t.GN.jZ t.GL else t.jZ x
def VM.doM (M M' : VM) (name : ByteArray) (keys : List Int) (n x r : Int) : VM := if r = 0 then M'.did name keys n x else M
section
variable {w0 w : World} {F : HP} {c m e : Nat} {s : bC} {name : ByteArray} {kv lv : Value} {keys : List Int} {n p x : Int} {g : Bool} {M M' : VM} {Q : Int → bC → VM → Prop}
theorem PN (h : zB name ∨ rV name) (hx : x = 0) : M.did name keys n x = { M with name := name, keys := keys, n := n, typed := [] } := if_pos ⟨h, hx⟩
theorem FQ (h : ¬ ((zB name ∨ rV name) ∧ x = 0)) : M.did name keys n x = M := if_neg h
theorem XA (H : V w0 w (VC c m e name kv n g lv s.c.pt • jW 21 .i32 lv s.c.L • pR m M • fF e s • F)) (hk : jE w0 F .i32 kv keys) (h1 : abd w0 name keys n g s M Q) (hkl : keys.length * 4 ≤ 140737488355328) (hw : nT name keys = 0) (hn : 1 ≤ n ∧ n ≤ 1000000) :
  iI prog 74 #[.pointer (some ⟨c, 0, none⟩)] w fun v w' => ∃ x t M', Q x t M' ∧ v = .int .i64 x ∧ V w0 w' (VC c m e name kv n g lv s.c.pt • jW 21 .i32 lv s.c.L • pR m (M'.did name keys n x) • fF e t • F) := by
 refine jr func74 ntmps74 ?_
 refine jR O (bT O (dS O func124 (h1 _ _ _ _ _ _ _ H hk) ?_))
 rintro _ w1 ⟨x, t, M2, hQ, rfl, H1⟩
 refine vY O (bT O (dL O (bJ 2 bW O oK O (fV kM O (H1).get.2 O (dS O func125 (PK H1) ?_)))))
 rintro _ w2 ⟨rfl, H2⟩
 refine bP O (uf O O (uf O O (iJ O (fP O (bT O (jJ O (fun h1 => ?_) (fun h1 => ?_)))))))
 ·(try simp only [aA] at h1)
  refine bg (bP O (bg (Z (dX O O) (jh O O (jL O (fun h2 => ?_) (fun h2 => ?_))))))
  ·(try simp only [aA] at h2)
   obtain ⟨Rk, Rl, Rn, zC, zK⟩ := (H2.f3).vm
   have hcg : zB name ∨ rV name := by assumption
   have hx0 : x = 0 := by assumption
   have aeR := zK.drew
   have xI := V.kp (aeR.f7.f7.f7.f7.f7.f7.f7)
   refine y9 [3, 7, 11, 16] xI O (iU 0 O xI O (jY 1 O xI O (iq 2 O xI 0 bW O sizeOf41 O (jQ 3 O xI (fun W hW => kF iK O ((Kp.h hW).f5).get.2 O) (iU 4 O xI O (jY 5 O xI O (iq 6 O xI 2 bW O oK O (jQ 7 O xI (fun W hW => kF kM O ((Kp.h hW).f5).get.2 O) (iU 8 O xI O (jY 9 O xI O (iq 10 O xI 3 bW O dh O (jQ 11 O xI (fun W hW => kF aj O ((Kp.h hW).f5).get.2 O) (iU 13 O xI O (jY 14 O xI O (iq 15 O xI 4 bW O ay O (jQ 16 O xI (fun W hW => kF aH O ((Kp.h hW).f5).get.2 O) (nD 12 O (xW O func71 (oz aeR (fun W HW => hk _ (HW.right.right.right.right.right.right.right)) (by omega))) ?_)))))))))))))))))
   rintro u4 w4 H4
   have Ai := V.kp (H4.f8.f8.f8.f8.f8.f8.f8.f8)
   refine eG Ai (fun W hW => (Kp.h hW).right.f7.f7.f7.f7.f7.f7.f7) ?_
   refine jB 17 O Ai (fun _ => eP (zl := [.string .empty, .slice none 0 0, .int .i64 0, .slice none 0 0]) (pl := [(0, 1), (1, 1), (2, 1), (3, 1)]) [_, _, _, _] underlying117 zeroValue117 O (fun w => by kernel_rfl) O (.on (.one (Rd.one ((H4).aQ)) (.on (.zero (zs := [.slice none 0 0]) O .nil)))) O) ?_
   refine jY 18 O Ai O (iq 19 O Ai 3 gY O sizeOf117 O ?_)
   refine gy 20 O (by kernel_rfl) (dw 3 (l' := [_, _, _, _, _, _, _, _]) (us := [_, _, _, _]) H4.f2 sizeOf117 O O O (aG (aX (by first | rfl | exact Rd.one ((H4).aQ)) (aG (aG bQ)))) O O) ?_
   rintro _ w5 H5
   have Fj := V.kp (H5.f8.f8.f8.f8.f8.f8.f8.f8)
   refine gU Fj (by kernel_rfl) ?_
   have Ho6 := H5.f2
   have Hc7 := Ho6.lM
   have Ho8 := Hc7.f3.f3
   have X7 := V.ac2 (M := { M2 with name := name, keys := keys, n := n, typed := [] }) ⟨hkl, by show ([] : List Int).length ≤ 1024; decide, .inr ⟨hcg, hw, hn.1, hn.2⟩⟩ rfl Ho8
   refine ru (aW (bT O (fC O (dK results74 O ?_))))
   exact ⟨_, _, M2, hQ, O, by first | (rw [PN hcg hx0]; exact X7.f2.right.f2.right.f4.f2.f4.f4) | (rw [FQ (fun hc => absurd hc.2 (by assumption))]; exact X7.f2.right.f2.right.f4.f2.f4.f4) | (rw [FQ (fun hc => absurd (decide_eq_true hc.1) (by simp only [*]; decide))]; exact X7.f2.right.f2.right.f4.f2.f4.f4)⟩
  ·(try simp only [aA] at h2)
   refine gQ (bT O (fC O (dK results74 O ?_)))
   exact ⟨_, _, M2, hQ, O, by first | (rw [PN hcg hx0]; exact H2.f4.f4.f4.f4) | (rw [FQ (fun hc => absurd hc.2 (by assumption))]; exact H2.f4.f4.f4.f4) | (rw [FQ (fun hc => absurd (decide_eq_true hc.1) (by simp only [*]; decide))]; exact H2.f4.f4.f4.f4)⟩
 ·(try simp only [aA] at h1)
  refine bF (bF (ig O O (iL (qH (gQ (bT O (fC O (dK results74 O ?_))))))))
  exact ⟨_, _, M2, hQ, O, by first | (rw [PN hcg hx0]; exact H2.f4.f4.f4.f4) | (rw [FQ (fun hc => absurd hc.2 (by assumption))]; exact H2.f4.f4.f4.f4) | (rw [FQ (fun hc => absurd (decide_eq_true hc.1) (by simp only [*]; decide))]; exact H2.f4.f4.f4.f4)⟩
theorem IB (s : bC) (h : lI s) : 1 ≤ max s.count 1 ∧ max s.count 1 ≤ 1000000 := by
  have h := h.2.2.1
  unfold bC.count
  dsimp only
  by_cases h1 : s.given = true <;> by_cases h2 : s.arg < 0 <;> by_cases h3 : s.minus = true <;> simp only [h1, h2, h3, if_true, if_false, Bool.false_eq_true] <;> omega
theorem UH (H : V w0 w (fF e s • F)) : lI s := by
  obtain ⟨pb, pr, pw, pt, pm, ph, bl, pv, es, u0, u1, u2, u3, u4, u5, u6, u7, u8, u9, ua, h, _⟩ := H.Ii
  exact h
theorem V3 (H : V w0 w (pR m M • fF e s • F)) (hi : s.inn = false) (hk : jE w0 F .i32 kv keys) (hkl : keys.length * 4 ≤ 140737488355328) (hw : nT name keys = 0) (hone : abd w0 name keys (max s.aZ.count 1) s.aZ.given s.aZ M Q) :
  iI prog 24 #[.pointer (some ⟨m, 0, none⟩), .pointer (some ⟨e, 0, none⟩), .string name, kv] w fun v w' => ∃ x t M', Q x t M' ∧ v = .int .i64 (t.UG x) ∧ V w0 w' (pR m (M.doM M' name keys (max s.aZ.count 1) x (t.UG x)) • fF e (t.ZN x) • F) := by
 refine Ql func24 ntmps24 ?_
 refine jR O (aO (aY (bT O (dS O func69 (DT H) ?_))))
 rintro _ _ ⟨rfl, rfl⟩
 refine bP O (bg (bP O (bg (dS O func70 (MN H.f2 hi) ?_))))
 rintro _ w2 ⟨cl2, rfl, H2⟩
 refine bg (Z (iR kJ O O) (ig O O (fP O (PZ O (fun h1 => ?_)))))
 (try simp only [aA] at h1)
 refine bT O (bP O (dS O func16 (FK H2 (fun W HW => hk _ (HW.right.right))) ?_))
 rintro _ w3 ⟨rfl, H3⟩
 refine Z (dX O O) (fP O (bH O (fun h => by exfalso; (try simp only [aA] at h); rw [hw] at h; exact absurd h (by decide)) (fun h2 => ?_)))
 (try simp only [aA] at h2)
 refine bT O (bP O (dS O func16 (FK H3 (fun W HW => hk _ (HW.right.right))) ?_))
 rintro _ w4 ⟨rfl, H4⟩
 refine Z (iM O O) (fP O (bH O (fun h => by exfalso; (try simp only [aA] at h); exact h hw) (fun h3 => ?_)))
 (try simp only [aA] at h3)
 refine dn (aK (aW (aO (bT O (dS O func29 (BI H4) ?_)))))
 rintro _ w5 ⟨rfl, H5⟩
 refine fP O (bT O (Z (iM O O) (jL O (fun h => by exfalso; (try simp only [aA] at h); exact h (by unfold bC.BG; rw [if_neg (by simp [hi])])) (fun h4 => ?_))))
 (try simp only [aA] at h4)
 refine gQ (bT O (dS O func38 (Pv H5.f2) ?_))
 rintro _ w6 ⟨c6, rfl, H6⟩
 have hco := IB s.aZ (UH H6.f3)
 refine fP O (bT O (jO O O (bP O (dS O func71 (oz H6 (fun W HW => hk _ (HW.right.right.right)) (by omega)) ?_))))
 rintro u7 w7 H7
 refine bP O (dS O func72 (Px H7.f4) ?_)
 rintro _ w8 ⟨rfl, H8⟩
 refine Z (Vd O O) (bP O (dS O func73 (Py H8) ?_))
 rintro _ w9 ⟨rfl, H9⟩
 refine Z (eP (zl := [.pointer none, .pointer none, .string .empty, .slice none 0 0, .int .i64 0, .bool false, .slice none 0 0, .int .i64 0]) (pl := [(0, 1), (1, 1), (2, 1), (3, 1), (4, 1), (5, 1), (6, 1), (7, 1)]) [_, _, _, _, _, _, _, _] bW zeroValue130 O (fun w => by kernel_rfl) O (.on (.on (.on (.one (Rd.one ((H9.f2).aQ)) (.on (.on (.zero (zs := [.slice none 0 0]) O (.zero (zs := [.int .i64 0]) O .nil)))))))) O) ?_
 refine jV (jH (l := [_, _, _, _, _, _, _, _]) H9 O O) ?_
 rintro _ w10 ⟨b10, rfl, pW⟩
 refine fP O (bT O (dS O func28 (xE pW.f2) ?_))
 rintro _ FX ⟨u11, rfl, sW⟩
 refine jV (iy (l := [_, _, _]) sW zeroValue46 O) ?_
 rintro _ w12 ⟨b12, rfl, wL⟩
 refine aI (dw 0 (l' := [_, _, _]) (us := [_, _, _]) wL sizeOf46 O O O (aX (by first | rfl | exact Rd.one ((wL.f2).aQ)) (aG (aG bQ))) O O) ?_
 rintro _ Qs xZ
 refine qR ?_
 have UJ := xZ.drew
 have yS := V.kp (UJ.f4.right.f6.f6.f6.f6.f6.f6)
 refine y9 [3, 5] yS O (iU 0 O yS O (iU 1 O yS O (iq 2 O yS 0 jF O dh O (jQ 3 O yS (fun W hW => kF aj O ((Kp.h hW)).get.2 O) (iq 4 O yS 1 jF O ay O (jQ 5 O yS (fun W hW => kF aH O ((Kp.h hW)).get.2 O) (jY 6 O yS O (iq 7 O yS 6 bW O dh O ?_))))))))
 refine gy 8 O (by kernel_rfl) (fU 6 (l' := [_, _, _, _, _, _, _, _]) UJ.f4 dh O O (by first | rfl | exact Rd.one ((UJ.f2).aQ)) O O) ?_
 rintro _ P6 Az
 have Gn := V.kp (Az.f7.f7.f7.f7.f7.f7.f7)
 refine eG Gn (fun W hW => (Kp.h hW).right.f6.f6.f6.f6.f6.f6) ?_
 refine jY 9 O Gn O (iq 10 O Gn 7 bW O ay O ?_)
 refine gy 11 O (by kernel_rfl) (fU 7 (l' := [_, _, _, _, _, _, _, _]) Az ay O O (by first | rfl | assumption) O O) ?_
 rintro _ Qu zI
 have yg := V.kp (zI.f7.f7.f7.f7.f7.f7.f7)
 refine gU yg (by kernel_rfl) ?_
 refine ru (aW (bT O (dS O func74 (XA zI.f4.f7.f5.f4 (fun W HW => (HW.f2).aQ) hone hkl hw hco) ?_)))
 rintro _ w16 ⟨x, t, M2, hQ, rfl, uY⟩
 refine vY O (bT O (Z (dX O O) (jL O (fun h5 => ?_) (fun h5 => ?_))))
 ·(try simp only [aA] at h5)
  have hx : x = 0 := h5
  refine aC (bP O (dS O func75 (PI uY.f4.f2) ?_))
  rintro _ Yr ⟨rfl, EH⟩
  refine vY O (bT O (bP O (dS O func31 (BO EH.f2) ?_)))
  rintro _ Ym ⟨rfl, Eb⟩
  refine fP O (bT O (Z (iM O O) (jL O (fun h6 => ?_) (fun h6 => ?_))))
  ·(try simp only [aA] at h6)
   obtain ⟨Rk, Rl, Rn, zC, zK⟩ := (Eb.f4).vm
   obtain ⟨aeS, aeT, aeU, UK, GU⟩ := (zK.f10).vm
   refine aC (jO O O (dL O (Z (dM gY O sizeOf119 O O (GU).get.2) (dL O (aI (dw 0 (l' := [_, _, _, _, _, _, _, _]) (us := [_, _, _, _, _, _, _, _]) GU.f5 sizeOf119 O O O (aG (aG (aG (aG (aX (by first | rfl | exact Rd.one ((GU.f3).kN)) (aG (aX (by first | rfl | exact Rd.one ((GU.f4).kN)) (aG bQ)))))))) O O) ?_)))))
   rintro _ w21 vN
   have agz := vN.f5.f5.f5.f4
   have abe := V.EY (M := M) UK agz
   refine rZ O (fC O (dK results24 O ?_))
   refine ⟨x, t, M2, hQ, by unfold bC.UG; first | rw [if_pos hx] | rw [if_neg hx], ?_⟩
   unfold VM.doM bC.UG bC.ZN
   first | (rw [if_pos hx, if_pos hx, if_pos (by assumption)]; exact abe.f2.right.f2.right.f2.right.f2.right.f3.right.f3.right.f3.right.f3.right.f2.f2) | (rw [if_pos hx, if_pos hx, if_neg (by assumption)]; exact abe.f2.right.f2.right.f2.right.f2.right.f3.right.f3.right.f3.right.f3.right.f2.f2) | (rw [if_neg hx, if_neg hx, if_pos (by assumption)]; exact abe.f2.right.f2.right.f2.right.f2.right.f3.right.f3.right.f3.right.f3.right.f2.f2) | (rw [if_neg hx, if_neg hx, if_neg (by assumption)]; exact abe.f2.right.f2.right.f2.right.f2.right.f3.right.f3.right.f3.right.f3.right.f2.f2)
  ·(try simp only [aA] at h6)
   refine gQ (bT O (fC O (dK results24 O ?_)))
   refine ⟨x, t, M2, hQ, by unfold bC.UG; first | rw [if_pos hx] | rw [if_neg hx], ?_⟩
   unfold VM.doM bC.UG bC.ZN
   first | (rw [if_pos hx, if_pos hx, if_pos (by assumption)]; exact Eb.f2.right.f2.right.f3.right.f3.right.f3.right.f2) | (rw [if_pos hx, if_pos hx, if_neg (by assumption)]; exact Eb.f2.right.f2.right.f3.right.f3.right.f3.right.f2) | (rw [if_neg hx, if_neg hx, if_pos (by assumption)]; exact Eb.f2.right.f2.right.f3.right.f3.right.f3.right.f2) | (rw [if_neg hx, if_neg hx, if_neg (by assumption)]; exact Eb.f2.right.f2.right.f3.right.f3.right.f3.right.f2)
 ·(try simp only [aA] at h5)
  have hx : ¬ x = 0 := h5
  refine gQ (aO (bT O (bP O (dS O func31 (BO uY.f4) ?_))))
  rintro _ w24 ⟨rfl, JY⟩
  refine fP O (bT O (Z (iM O O) (jL O (fun h7 => ?_) (fun h7 => ?_))))
  ·(try simp only [aA] at h7)
   obtain ⟨Rk, Rl, Rn, zC, zK⟩ := (JY.f4).vm
   obtain ⟨aeS, aeT, aeU, UK, GU⟩ := (zK.f10).vm
   refine aC (jO O O (dL O (Z (dM gY O sizeOf119 O O (GU).get.2) (dL O (aI (dw 0 (l' := [_, _, _, _, _, _, _, _]) (us := [_, _, _, _, _, _, _, _]) GU.f5 sizeOf119 O O O (aG (aG (aG (aG (aX (by first | rfl | exact Rd.one ((GU.f3).kN)) (aG (aX (by first | rfl | exact Rd.one ((GU.f4).kN)) (aG bQ)))))))) O O) ?_)))))
   rintro _ w27 IW
   have acL := IW.f5.f5.f5.f4
   have Xc := V.EY (M := M) UK acL
   refine rZ O (fC O (dK results24 O ?_))
   refine ⟨x, t, M2, hQ, by unfold bC.UG; first | rw [if_pos hx] | rw [if_neg hx], ?_⟩
   unfold VM.doM bC.UG bC.ZN
   first | (rw [if_pos hx, if_pos hx, if_pos (by assumption)]; exact Xc.f2.right.f2.right.f2.right.f2.right.f3.right.f3.right.f3.right.f3.right.f2.f2) | (rw [if_pos hx, if_pos hx, if_neg (by assumption)]; exact Xc.f2.right.f2.right.f2.right.f2.right.f3.right.f3.right.f3.right.f3.right.f2.f2) | (rw [if_neg hx, if_neg hx, if_pos (by assumption)]; exact Xc.f2.right.f2.right.f2.right.f2.right.f3.right.f3.right.f3.right.f3.right.f2.f2) | (rw [if_neg hx, if_neg hx, if_neg (by assumption)]; exact Xc.f2.right.f2.right.f2.right.f2.right.f3.right.f3.right.f3.right.f3.right.f2.f2)
  ·(try simp only [aA] at h7)
   refine gQ (bT O (fC O (dK results24 O ?_)))
   refine ⟨x, t, M2, hQ, by unfold bC.UG; first | rw [if_pos hx] | rw [if_neg hx], ?_⟩
   unfold VM.doM bC.UG bC.ZN
   first | (rw [if_pos hx, if_pos hx, if_pos (by assumption)]; exact JY.f2.right.f2.right.f3.right.f3.right.f3.right.f2) | (rw [if_pos hx, if_pos hx, if_neg (by assumption)]; exact JY.f2.right.f2.right.f3.right.f3.right.f3.right.f2) | (rw [if_neg hx, if_neg hx, if_pos (by assumption)]; exact JY.f2.right.f2.right.f3.right.f3.right.f3.right.f2) | (rw [if_neg hx, if_neg hx, if_neg (by assumption)]; exact JY.f2.right.f2.right.f3.right.f3.right.f3.right.f2)
end
end Go.Proofs.YtpdeedplgmbopaaGreatDoor
end
section
namespace Go.Proofs.YtpdeedplgmbopaaGreatDoor
open Go.RowKit Go.Lib
def abf : ByteArray := ⟨#[40, 91, 123, 41, 93, 125]⟩
def RN : ByteArray := ⟨#[41, 93, 125]⟩
def RP : ByteArray := ⟨#[40, 91, 123]⟩
def Bd (r : Int) : Int := if r = 40 then 0 else if r = 91 then 1 else if r = 123 then 2 else if r = 41 then 3 else if r = 93 then 4 else 5
theorem JF {r : Int} (h : yO r = true) : r = 40 ∨ r = 91 ∨ r = 123 ∨ r = 41 ∨ r = 93 ∨ r = 125 := by unfold yO at h; simp at h; omega
theorem V4 {r : Int} : r ∈ CV abf ↔ yO r = true := by
  rw [show CV abf = [40, 91, 123, 41, 93, 125] from by rfl]
  unfold yO; simp; omega
theorem adh {r : Int} (h : yO r = true) : indexByte abf.data.toList (r % 256).toNat.toUInt8 = Bd r := by
  rcases JF h with rfl | rfl | rfl | rfl | rfl | rfl <;> rfl
theorem ZO (r : Int) : 0 ≤ Bd r ∧ Bd r ≤ 5 := by
  unfold Bd
  repeat' split
  all_goals omega
theorem JG {r : Int} (h : yO r = true) (hk : Bd r < 3) : sb RN (Bd r % 3).toNat = Il r ∧ Gv r = 1 := by
  rcases JF h with rfl | rfl | rfl | rfl | rfl | rfl <;> first | exact ⟨rfl, rfl⟩ | exact absurd hk (by decide)
theorem JH {r : Int} (h : yO r = true) (hk : 3 ≤ Bd r) : sb RP (Bd r - 3).toNat = Il r ∧ Gv r = -1 := by
  rcases JF h with rfl | rfl | rfl | rfl | rfl | rfl <;> first | exact ⟨rfl, rfl⟩ | exact absurd hk (by decide)
theorem abg (r : Int) : Gv r = 1 ∨ Gv r = -1 := by unfold Gv; split <;> simp
theorem abh {r : Int} (h : yO r = true) : Il r ≠ r := by rcases JF h with rfl | rfl | rfl | rfl | rfl | rfl <;> decide
theorem abj (i : Nat) : 0 ≤ sb RN i ∧ sb RN i < 128 := ab0 (by decide) i
theorem abk (i : Nat) : 0 ≤ sb RP i ∧ sb RP i < 128 := ab0 (by decide) i
def zG (a b d x : Int) : Int := d + (if x = a then 1 else 0) - (if x = b then 1 else 0)
theorem XB {a b d x : Int} (h : zG a b d x = 0) : KU a b d x = none := if_pos h
theorem ZP {a b d x : Int} (h : ¬ zG a b d x = 0) : KU a b d x = some (zG a b d x) := if_neg h
theorem abl {a b d x : Int} (h : x = a) (hab : b ≠ a) : zG a b d x = d + 1 := by unfold zG; rw [if_pos h, if_neg (by omega)]; omega
theorem abm {a b d x : Int} (h : ¬ x = a) (hb : x = b) : zG a b d x = d - 1 := by unfold zG; rw [if_neg h, if_pos hb]; omega
theorem abn {a b d x : Int} (h : ¬ x = a) (hb : ¬ x = b) : zG a b d x = d := by unfold zG; rw [if_neg h, if_neg hb]; omega
theorem ZQ (a b d x : Int) : d - 1 ≤ zG a b d x ∧ zG a b d x ≤ d + 1 := by unfold zG; split <;> split <;> omega
section
variable {l : List Int} {x i j : Int}
theorem RQ (h : (l.length : Int) ≤ lF (fun r => !yO r) l x) : zy l x = (0, false, false) := if_pos h
theorem E8 (e : lF (fun r => !yO r) l x = i) (h : i < l.length) (hs : yu (Gv (l.getD i.toNat 0)) (KU (l.getD i.toNat 0) (Il (l.getD i.toNat 0))) l 0 i = none) : zy l x = (0, false, false) := by
  unfold zy; rw [e, if_neg (by omega), hs]
theorem MO (e : lF (fun r => !yO r) l x = i) (h : i < l.length) (hs : yu (Gv (l.getD i.toNat 0)) (KU (l.getD i.toNat 0) (Il (l.getD i.toNat 0))) l 0 i = some j) : zy l x = (j, true, true) := by
  unfold zy; rw [e, if_neg (by omega), hs]
end
section
variable {w0 w : World} {F : HP} {v : Value} {l : List Int} {x n key c r : Int} {s : ByteArray}
theorem XC (h : yO r = true) : iI Tryz.prog 98 #[.string ⟨#[40, 91, 123, 41, 93, 125]⟩, .int .u8 (r % 256)] w fun v w' => v = .int .i64 (Bd r) ∧ w = w' := Gw.mono fun v w' h2 => ⟨h2.1.trans (congrArg (Value.int .i64) (adh h)), h2.2⟩
theorem PO (H : V w0 w F) (hr : jE w0 F .i32 v l) (hx : 0 ≤ x ∧ x ≤ l.length) (hl9 : l.length ≤ 4611686018427387904) : iI Tryz.prog 43 #[v, .int .i64 x] w fun u w' => u = Xj (zy l x) ∧ V w0 w' F := by
 refine oN Tryz.func43 Tryz.ntmps43 ?_
 refine iV (iJ O (iJ O (vY O (bT O (fP O (aY ?_))))))
 refine gV [(0, _)] (fun (i : Int) => [(7, .int .i64 i)]) (fun (i : Int) W => ((0 ≤ i ∧ i ≤ l.length) ∧ lF (fun r => !yO r) l i = lF (fun r => !yO r) l x) ∧ V w0 W F) (fun (i : Int) => (l.length - i).toNat) (x) mG mG ⟨⟨hx, O⟩, H⟩ ?_
 rintro i w1 ⟨⟨hi, hE⟩, HL⟩
 dsimp only [List.cons_append, List.nil_append]
 refine aO (bT O (bP O (Z (jy (hr _ (HL)) aj O) (Z (gB O O) (jL O (fun h1 => ?_) (fun h1 => ?_))))))
 ·(try simp only [aA] at h1)
  refine gQ (aO (aY (aO (bT O (bP O ?_)))))
  obtain ⟨bv, ov, cv, ev⟩ := gJ.rG (hr _ (HL)) (by omega)
  cases ev
  refine Z (dP aj bV O O (by omega)) ?_
  refine Z (fG (dA bG O) O (by first | exact gJ.mZ (hr _ (HL)) (by omega) | exact gJ.yA (hr _ (HL)) (by omega) | exact gJ.xX (hr _ (HL)) (by omega))) ?_
  refine dS O Tryz.func50 (Em (s := abf) (by decide)) ?_
  rintro _ _ ⟨rfl, rfl⟩
  refine Z (lC O) (jL O (fun h2 => ?_) (fun h2 => ?_))
  ·(try simp only [aA] at h2)
   have hno : yO (l.getD i.toNat 0) = false := by have h9 := h2; rw [← Bool.not_eq_true, ← V4]; simpa using h9
   refine dO (aN (bn (aW (aC (bP O (Z (fO O O (by omega)) (iJ O (bY ?_))))))))
   refine dU (i + 1) ?_ ?_ ?_ ?_
   ·exact mG
   ·exact mG
   ·(try dsimp only)
    first | done | exact ⟨⟨by omega, (tN hi.1 (by omega) (by show (!yO _) = true; rw [hno]; rfl)).symm.trans hE⟩, HL⟩
   ·(try dsimp only); omega
  ·(try simp only [aA] at h2)
   have hbr : yO (l.getD i.toNat 0) = true := by have h9 := h2; rw [← V4]; simpa using h9
   have hR : lF (fun r => !yO r) l x = i := hE.symm.trans (mM hi.1 (by omega) (by show ¬ (!yO _) = true; rw [hbr]; decide))
   have hkb := ZO (l.getD i.toNat 0)
   refine gQ (bT O (bP O (Z (dP aj bV O O (by omega)) ?_)))
   refine Z (fG (dA bG O) O (by first | exact gJ.mZ (hr _ (HL)) (by omega) | exact gJ.yA (hr _ (HL)) (by omega) | exact gJ.xX (hr _ (HL)) (by omega))) ?_
   refine Z (NZ O (by rw [Tryz.underlying21]; rfl) Tryz.underlying5) ?_
   refine dS O Tryz.func98 (XC hbr) ?_
   rintro _ _ ⟨rfl, rfl⟩
   refine vY O ?_
   have adi := HL.drew
   have Lr := V.kp (adi)
   refine y9 [2] Lr O (iU 0 O Lr O ?_)
   refine jB 1 O Lr (fun _ => Ye O O (by omega) (by  omega)) ?_
   refine jQ 2 O Lr (fun W hW => I8 kM O O (by exact ⟨by omega, by show _ < (3 : Int); omega⟩)) ?_
   refine jB 3 O Lr (fun _ => Bj O (by rw [Tryz.underlying5]; rfl) bG (JC (by have := abj (Bd (l.getD i.toNat 0) % 3).toNat; show -2147483648 ≤ sb RN _ ∧ sb RN _ < 2147483648; omega))) ?_
   refine jB 4 O Lr (fun _ => dR O) (jB 5 O Lr (fun _ => dR O) (ru (aW ?_)))
   refine lu [(0, _), (7, _)] (fun (_ : Unit) => [(9, .int .i64 (Gv (l.getD i.toNat 0))), (10, .int .i32 (Il (l.getD i.toNat 0)))]) (fun (_ : Unit) W => V w0 W F) ug ?_ ?_
   ·rintro _ w4 HJ
    dsimp only [List.cons_append, List.nil_append]
    have hst := abg (l.getD i.toNat 0)
    have hne := abh hbr
    refine jR O (aO (bT O (fP O (aY ?_))))
    have hmi := Io (n := l.length) (i := i) hst (by omega) (by omega)
    refine gV [(0, _), (7, _), (9, _), (10, _)] (fun (⟨j, d⟩ : Int × Int) => [(11, .int .i64 d), (12, .int .i64 j)]) (fun (⟨j, d⟩ : Int × Int) W => ((-1 ≤ j ∧ j ≤ l.length) ∧ (d + EW (Gv (l.getD i.toNat 0)) l.length j ≤ l.length + 1 ∧ EW (Gv (l.getD i.toNat 0)) l.length j - d ≤ l.length + 1) ∧ yu (Gv (l.getD i.toNat 0)) (KU (l.getD i.toNat 0) (Il (l.getD i.toNat 0))) l 0 i = yu (Gv (l.getD i.toNat 0)) (KU (l.getD i.toNat 0) (Il (l.getD i.toNat 0))) l d j) ∧ V w0 W F) (fun (⟨j, d⟩ : Int × Int) => (EW (Gv (l.getD i.toNat 0)) l.length j).toNat) ((i, 0)) OB ug ⟨⟨by omega, by omega, O⟩, HJ⟩ ?_
    rintro ⟨j, d⟩ w5 ⟨⟨hj, hd, hF⟩, HM⟩
    dsimp only [List.cons_append, List.nil_append]
    have hms := KY (n := l.length) (i := j) hst
    have hmp := fun h0 h1 => Io (n := l.length) (i := j) hst h0 h1
    have hdb := ZQ (l.getD i.toNat 0) (Il (l.getD i.toNat 0)) d (l.getD j.toNat 0)
    refine aO (bT O (Z (mX O O) (jJ O (fun h3 => ?_) (fun h3 => ?_))))
    ·(try simp only [aA] at h3)
     refine bg (bP O (bg (bP O (bg (Z (jc aj O) (bg (Z (gB O O) (jh O O (jL O (fun h4 => ?_) (fun h4 => ?_))))))))))
     ·(try simp only [aA] at h4)
      refine gQ (aO (aY ?_))
      refine lu [(0, _), (7, _), (9, _), (10, _), (12, _), (46, _), (47, _), (48, _), (49, _)] (fun (_ : Unit) => [(11, .int .i64 (zG (l.getD i.toNat 0) (Il (l.getD i.toNat 0)) d (l.getD j.toNat 0)))]) (fun (_ : Unit) W => V w0 W F) (Sub.cons O (Sub.cons O (Sub.cons O Vh))) ?_ ?_
      ·rintro _ w6 HK
       dsimp only [List.cons_append, List.nil_append]
       refine bT O (Z (dX O O) (jL O (fun h5 => ?_) (fun h5 => ?_)))
       ·(try simp only [aA] at h5)
        have hd0 : zG (l.getD i.toNat 0) (Il (l.getD i.toNat 0)) d (l.getD j.toNat 0) = 0 := h5
        refine bT O (iJ O (iJ O (fC O (aT (aB (aB (aT (aB (aT (aB (aB (aT (aB ?_)))))))))))))
        refine ji (.inl O) Tryz.results43 O O O ?_
        exact ⟨by rw [MO hR (by omega) (hF.trans (Ej (by omega) (by omega) (XB hd0)))]; rfl, HK⟩
       ·(try simp only [aA] at h5)
        have hd0 : ¬ zG (l.getD i.toNat 0) (Il (l.getD i.toNat 0)) d (l.getD j.toNat 0) = 0 := h5
        refine dn (aK (aW (aC (jO O O (Z (fO O O (by omega)) (iJ O (bY ?_)))))))
        refine dU (_, _) ug OB (by (try dsimp only); exact ⟨⟨by omega, by omega, hF.trans (KT hst (by omega) (by omega) (ZP hd0))⟩, HK⟩) ?_
        ·(try dsimp only); have := hmp (by omega) (by omega); omega
      ·skip
       refine aO ?_
       have hmq := hmp (by omega) (by omega)
       refine aC (jO O O (Z (dP aj bV O O (by omega)) ?_))
       refine Z (fG (dA bG O) O (by first | exact gJ.mZ (hr _ (HM)) (by omega) | exact gJ.yA (hr _ (HM)) (by omega) | exact gJ.xX (hr _ (HM)) (by omega))) ?_
       refine iL (aY (bT O (bP O (Z (dP aj bV O O (by omega)) ?_))))
       refine Z (fG (dA bG O) O (by first | exact gJ.mZ (hr _ (HM)) (by omega) | exact gJ.yA (hr _ (HM)) (by omega) | exact gJ.xX (hr _ (HM)) (by omega))) ?_
       refine Z (dX O O) (fP O (bH O (fun h6 => ?_) (fun h6 => ?_)))
       ·(try simp only [aA] at h6)
        have ha : l.getD j.toNat 0 = l.getD i.toNat 0 := h6
        have hdN := abl (d := d) ha hne
        refine aC (bP O (Z (fO O O (by omega)) (iJ O (bY (aK ?_)))))
        refine dF (()) ?_ ?_ ?_
        ·exact (Sub.jG O (by rw [hdN]) (Sub.nil _))
        ·exact (Sub.cons O (Sub.cons O (Sub.cons O Vh)))
        ·(try dsimp only)
         first | done | exact HM
       ·(try simp only [aA] at h6)
        have ha : ¬ l.getD j.toNat 0 = l.getD i.toNat 0 := h6
        refine bT O (Z (dX O O) (fP O (bH O (fun h7 => ?_) (fun h7 => ?_))))
        ·(try simp only [aA] at h7)
         have hdN := abm (d := d) ha h7
         refine aC (bP O (Z (iZ O O (by omega)) (iJ O (bY (aK ?_)))))
         refine dF (()) ?_ ?_ ?_
         ·exact (Sub.jG O (by rw [hdN]) (Sub.nil _))
         ·exact (Sub.cons O (Sub.cons O (Sub.cons O Vh)))
         ·(try dsimp only)
          first | done | exact HM
        ·(try simp only [aA] at h7)
         have hdN := abn (d := d) ha h7
         refine dn (aK ?_)
         refine dF (()) ?_ ?_ ?_
         ·exact (Sub.jG O (by rw [hdN]) (Sub.nil _))
         ·exact (Sub.cons O (Sub.cons O (Sub.cons O Vh)))
         ·(try dsimp only)
          first | done | exact HM
     ·(try simp only [aA] at h4)
      refine dO (aN (aN (bn (aW (iV (iJ O (iJ O (fC O (aT (aB (aB (aT (aB ?_)))))))))))))
      refine ji (.inl O) Tryz.results43 O O O ?_
      exact ⟨by rw [E8 hR (by omega) (hF.trans (Ei (by omega)))]; rfl, HM⟩
    ·(try simp only [aA] at h3)
     refine bF (bF (bF (bF (ig O O (iL (qH (dO (aN (aN (bn (aW (iV (iJ O (iJ O (fC O (aT (aB (aB (aT (aB ?_))))))))))))))))))))
     refine ji (.inl O) Tryz.results43 O O O ?_
     exact ⟨by rw [E8 hR (by omega) (hF.trans (Ei (by omega)))]; rfl, HM⟩
   ·skip
    refine bT O (Z (mX O O) (jL O (fun h8 => ?_) (fun h8 => ?_)))
    ·(try simp only [aA] at h8)
     have hk3 : 3 ≤ Bd (l.getD i.toNat 0) := h8
     have aeV := adi.drew
     have Ls := V.kp (aeV)
     refine y9 [2] Ls O (iU 0 O Ls O (jB 1 O Ls (fun _ => iZ O O (by omega)) ?_))
     refine jQ 2 O Ls (fun W hW => I8 kM O O (by exact ⟨by omega, by show _ < (3 : Int); omega⟩)) ?_
     refine jB 3 O Ls (fun _ => Bj O (by rw [Tryz.underlying5]; rfl) bG (JC (by have := abk (Bd (l.getD i.toNat 0) - 3).toNat; show -2147483648 ≤ sb RP _ ∧ sb RP _ < 2147483648; omega))) ?_
     refine jB 4 O Ls (fun _ => dR O) (jB 5 O Ls (fun _ => dR O) (ru ?_))
     refine dF (()) ?_ ?_ ?_
     ·exact (Sub.jG O (by first | exact congrArg (Value.int .i64) (JG hbr (by assumption)).2.symm | exact congrArg (Value.int .i64) (JH hbr (by assumption)).2.symm) (Sub.jG O (by first | exact congrArg (Value.int .i32) (JG hbr (by assumption)).1 | exact congrArg (Value.int .i32) (JH hbr (by assumption)).1) (Sub.nil _)))
     ·exact ug
     ·(try dsimp only)
      first | done | exact aeV
    ·(try simp only [aA] at h8)
     have hk3 : Bd (l.getD i.toNat 0) < 3 := by have h9 := h8; omega
     refine dn ?_
     refine dF (()) ?_ ?_ ?_
     ·exact (Sub.jG O (by first | exact congrArg (Value.int .i64) (JG hbr (by assumption)).2.symm | exact congrArg (Value.int .i64) (JH hbr (by assumption)).2.symm) (Sub.jG O (by first | exact congrArg (Value.int .i32) (JG hbr (by assumption)).1 | exact congrArg (Value.int .i32) (JH hbr (by assumption)).1) (Sub.nil _)))
     ·exact ug
     ·(try dsimp only)
      first | done | exact adi
 ·(try simp only [aA] at h1)
  refine dO (aN (aN (bn (aW (iV (iJ O (iJ O (fC O ?_))))))))
  refine ji (.inl O) Tryz.results43 O O O ?_
  exact ⟨by rw [RQ (by rw [← hE, kK (by omega)]; omega)]; rfl, HL⟩
end
end Go.Proofs.YtpdeedplgmbopaaGreatDoor
end
section
namespace Go.Proofs.YtpdeedplgmbopaaGreatDoor
open Go.RowKit
open _root_.Go.Proofs.Tryz
def Lu (w0 : World) (fv : Value) (g : List Int → Int → Bool → Int) (I : List Int → Int → Prop) : Prop := fv.oneCell' = true ∧ ∀ (F : HP) (W : World) (v : Value) (l : List Int) (x : Int) (b : Bool), V w0 W F → jE w0 F .i32 v l → l.length ≤ 4611686018427387904 → I l x →
  uq prog fv [v, .int .i64 x, .bool b] W fun u W' => (u = .int .i64 (g l x b) ∧ I l (g l x b)) ∧ V w0 W' F
def V5 (w0 : World) (fv : Value) (m : List Int → Int → Bool) : Prop := fv.oneCell' = true ∧ ∀ (F : HP) (W : World) (v : Value) (l : List Int) (x : Int), V w0 W F → jE w0 F .i32 v l →
  uq prog fv [v, .int .i64 x] W fun u W' => u = .bool (m l x) ∧ V w0 W' F
def inL (l : List Int) (x : Int) : Prop := 0 ≤ x ∧ x ≤ l.length
def aeW (l : List Int) (x : Int) : Prop := 0 ≤ x ∧ x < l.length
section
variable {w0 : World}
theorem Oe (hT : Ae w0) : Lu w0 (.func (.func 95) #[] #[]) zX inL :=
  ⟨rfl, fun F W v l x b H hr hl hx => ⟨95, [], [], _, _, rfl, func95, rfl, rfl, (Xh H hr hT hx.1 hx.2).mono fun u W' h => ⟨⟨h.1, by have := Zh l b hx.1 hx.2; exact ⟨Int.le_trans hx.1 this.1, this.2⟩⟩, h.2⟩⟩⟩
theorem Og (hT : Ae w0) : Lu w0 (.func (.func 96) #[] #[]) CO inL :=
  ⟨rfl, fun F W v l x b H hr hl hx => ⟨96, [], [], _, _, rfl, func96, rfl, rfl, (Xi H hr hT hx.1 hx.2).mono fun u W' h => ⟨⟨h.1, by have := Zi l b hx.1 hx.2; exact ⟨this.1, Int.le_trans this.2 hx.2⟩⟩, h.2⟩⟩⟩
theorem step_end (hT : Ae w0) : Lu w0 (.func (.func 97) #[] #[]) Jr aeW :=
  ⟨rfl, fun F W v l x b H hr hl hx => ⟨97, [], [], _, _, rfl, func97, rfl, rfl, (Zg H hr hT hx.1 (Int.le_of_lt hx.2) hl).mono fun u W' h => ⟨⟨h.1, by have := aa1 l b hx.1 hx.2; exact ⟨Int.le_trans hx.1 this.1, this.2⟩⟩, h.2⟩⟩⟩
end
section
variable {w0 w : World} {F : HP} {v : Value} {l : List Int} {x : Int}
theorem UL (H : V w0 w F) (hr : jE w0 F .i32 v l) : iI prog 92 #[v, .int .i64 x] w fun u w' => u = .bool (decide (x < l.length)) ∧ V w0 w' F := by
  refine oN func92 ntmps92 ?_
  refine jR O (bT O (bP O (Z (jy (hr _ (H)) aj O) (Z (gB O O) (fC O (dK results92 O ?_))))))
  exact ⟨O, H⟩
theorem XD (H : V w0 w F) (hr : jE w0 F .i32 v l) : iI prog 93 #[v, .int .i64 x] w fun u w' => u = .bool (decide (0 < x)) ∧ V w0 w' F := by
  refine oN func93 ntmps93 ?_
  refine jR O (bT O (Z (dY O O) (fC O (dK results93 O ?_))))
  exact ⟨O, H⟩
theorem UM (H : V w0 w F) (hr : jE w0 F .i32 v l) : iI prog 94 #[v, .int .i64 x] w fun u w' => u = .bool (decide (x < (l.length : Int) - 1)) ∧ V w0 w' F := by
  have hl9 : l.length ≤ 9223372036854775807 := by have := (hr _ H).open; obtain ⟨a, c, e, h3, h4, _⟩ := this; omega
  refine oN func94 ntmps94 ?_
  refine jR O (bT O (bP O (Z (jy (hr _ (H)) aj O) (Z (iZ O O (by omega)) (Z (gB O O) (fC O (dK results94 O ?_)))))))
  exact ⟨O, H⟩
end
section
variable {w0 : World}
theorem LC : V5 w0 (.func (.func 92) #[] #[]) fun l x => decide (x < l.length) := ⟨rfl, fun F W v l x H hr => ⟨92, [], [], _, _, rfl, func92, rfl, rfl, UL H hr⟩⟩
theorem Oh : V5 w0 (.func (.func 93) #[] #[]) fun l x => decide (0 < x) := ⟨rfl, fun F W v l x H hr => ⟨93, [], [], _, _, rfl, func93, rfl, rfl, XD H hr⟩⟩
theorem LD : V5 w0 (.func (.func 94) #[] #[]) fun l x => decide (x < (l.length : Int) - 1) := ⟨rfl, fun F W v l x H hr => ⟨94, [], [], _, _, rfl, func94, rfl, rfl, UM H hr⟩⟩
end
section
variable {w0 w : World} {F : HP} {v fv : Value} {l : List Int} {x n : Int} {g : Int → Int} {I : Int → Prop}
theorem UN (H : V w0 w F) (hf : ∀ W y, V w0 W F → I y → uq prog fv [.int .i64 y] W fun u W' => (u = .int .i64 (g y) ∧ I (g y)) ∧ V w0 W' F) (hx : I x) (hn : n ≤ 9223372036854775807) : iI prog 90 #[.int .i64 x, .int .i64 n, fv] w fun u w' => u = .int .i64 (A8 g n.toNat x) ∧ V w0 w' F := by
 refine AB func90 ntmps90 ?_
 refine jR O (aO (bT O (bP O (iL (aY ?_)))))
 refine gV [(2, _), (8, _)] (fun (⟨k, y⟩ : Nat × Int) => [(0, .int .i64 y), (9, .int .i64 (k : Int))]) (fun (⟨k, y⟩ : Nat × Int) W => ((k : Int) ≤ max n 0 ∧ I y ∧ A8 g n.toNat x = A8 g (n.toNat - k) y) ∧ V w0 W F) (fun (⟨k, y⟩ : Nat × Int) => n.toNat - k) ((0, x)) ug ug ⟨⟨by omega, hx, O⟩, H⟩ ?_
 rintro ⟨k, y⟩ w1 ⟨⟨hk, hy, he⟩, HL⟩
 dsimp only [List.cons_append, List.nil_append]
 refine iV (Z (gB O O) (qR (bH O (fun h1 => ?_) (fun h1 => ?_))))
 ·(try simp only [aA] at h1)
  refine gQ (aO (aY (bT O (bP O (jV (pG O O (hf _ _ HL hy)) ?_)))))
  rintro _ w2 ⟨⟨rfl, hgy⟩, H2⟩
  refine vY O (bT O (bP O (Z (dX O O) (jL O (fun h2 => ?_) (fun h2 => ?_)))))
  ·(try simp only [aA] at h2)
   have heq : g y = y := h2
   refine dO (aN ?_)
   refine EF (by decide) ?_
   refine aN (aN (bn (aW (bT O (fC O (dK results90 O ?_))))))
   exact ⟨by rw [he]; first | rw [KW heq] | (rw [show n.toNat - k = 0 from by omega]; rfl), H2⟩
  ·(try simp only [aA] at h2)
   have hne : ¬ g y = y := h2
   refine gQ (aC (bP O (iJ O (bY (aK (aW (aC (Z (fO O O (by omega)) (bP O (bY ?_))))))))))
   refine dU ((k + 1, g y)) ?_ ?_ ?_ ?_
   ·exact ug
   ·exact ug
   ·(try dsimp only)
    first | done | exact ⟨⟨by omega, hgy, by rw [he, Ur (by omega) hne]; rfl⟩, H2⟩
   ·(try dsimp only); omega
 ·(try simp only [aA] at h1)
  refine dO (aN (aN (bn (aW (bT O (fC O (dK results90 O ?_)))))))
  exact ⟨by rw [he]; first | rw [KW heq] | (rw [show n.toNat - k = 0 from by omega]; rfl), HL⟩
end
structure MP where
  ps : Nat
  pb : Nat
  pw : Nat
  pm : Nat
def RS (p : MP) : Value := .func (.func 89) #[] #[.pointer (some ⟨p.pm, 0, none⟩), .pointer (some ⟨p.ps, 0, none⟩), .pointer (some ⟨p.pb, 0, none⟩), .pointer (some ⟨p.pw, 0, none⟩)]
def oV (p : MP) (sv : Value) (b t : Bool) (mv : Value) : HP := dW p.pm (.cells #[mv] 66 (0, 0)) • dW p.pw (.cells #[.bool t] 4 (0, 0)) • dW p.pb (.cells #[.bool b] 4 (0, 0)) • dW p.ps (.cells #[sv] 141 (0, 0))
section
variable {w0 w : World} {F : HP} {v sv mv : Value} {l : List Int} {x n : Int} {b t : Bool} {p : MP} {ps pl pb pw pm : Nat} {g : List Int → Int → Bool → Int} {I : List Int → Int → Prop} {m : List Int → Int → Bool}
theorem UO (H : V w0 w (dW ps (.cells #[sv] 141 (0, 0)) • dW pl (.cells #[v] 22 (0, 0)) • dW pb (.cells #[.bool b] 4 (0, 0)) • F)) (hf : Lu w0 sv g I) (hr : jE w0 F .i32 v l) (hl : l.length ≤ 4611686018427387904) (hx : I l x) :
    iI prog 91 #[.int .i64 x, .pointer (some ⟨ps, 0, none⟩), .pointer (some ⟨pl, 0, none⟩), .pointer (some ⟨pb, 0, none⟩)] w fun u w' => (u = .int .i64 (g l x b) ∧ I l (g l x b)) ∧ V w0 w' (dW ps (.cells #[sv] 141 (0, 0)) • dW pl (.cells #[v] 22 (0, 0)) • dW pb (.cells #[.bool b] 4 (0, 0)) • F) := by
  refine X3 func91 ntmps91 ?_
  dsimp only [yY, Nat.reduceAdd]
  refine jR O (iV (fV underlying141 O (H).get.2 O (fV aj O (H.f2).get.2 O (bP O (fV bZ O (H.f3).get.2 O (jV (pG O O (hf.2 _ _ _ l _ _ H (fun W HW => hr _ (HW.right.right.right)) hl hx)) ?_))))))
  rintro _ w1 ⟨⟨rfl, hgx⟩, H1⟩
  refine fC O (dK results91 O ?_)
  exact ⟨⟨O, hgx⟩, H1⟩
theorem Bf (H : V w0 w (oV p sv b t mv • F)) (hf : Lu w0 sv g I) (hm : V5 w0 mv m) (hI : ∀ y, m l y = true → inL l y → I l y) (hr : jE w0 F .i32 v l) (hl : l.length ≤ 4611686018427387904) (hx : inL l x) (hn : n ≤ 9223372036854775807) :
  uq prog (RS p) [v, .int .i64 x, .int .i64 n] w fun u w' => u = Xj (if m l x = true then (A8 (fun y => g l y b) n.toNat x, t, true) else (0, false, false)) ∧ V w0 w' (oV p sv b t mv • F) := by
 obtain ⟨ps, pb, pw, pm⟩ := p
 refine ⟨_, [], _, _, _, O, func89, O, O, ?_⟩
 have H0 : V w0 w (dW pm (.cells #[mv] 66 (0, 0)) • dW pw (.cells #[.bool t] 4 (0, 0)) • dW pb (.cells #[.bool b] 4 (0, 0)) • dW ps (.cells #[sv] 141 (0, 0)) • F) := H.of_eq (by unfold oV; simp only [dD])
 have hback : ∀ {W : World}, V w0 W (dW pm (.cells #[mv] 66 (0, 0)) • dW pw (.cells #[.bool t] 4 (0, 0)) • dW pb (.cells #[.bool b] 4 (0, 0)) • dW ps (.cells #[sv] 141 (0, 0)) • F) → V w0 W (oV ⟨ps, pb, pw, pm⟩ sv b t mv • F) := fun h => h.of_eq (by unfold oV; simp only [dD])
 simp only [List.nil_append, List.cons_append]
 refine X3 func89 ntmps89 ?_
 dsimp only [yY, Nat.reduceAdd]
 refine iV (jV (jH (l := [_]) H0 O (by first | rfl | exact Ea (by first | rfl | exact Rd.one (hr _ (H0.right.right.right.right))))) ?_)
 rintro _ w1 ⟨b1, rfl, H1⟩
 refine iJ O (iJ O (vY O (iV (fV underlying66 O (H1.f2).get.2 O (fV aj O (H1).get.2 O (bP O (jV (pG O O (hm.2 _ _ _ l _ H1 (fun W HW => hr _ (HW.right.right.right.right.right)))) ?_)))))))
 rintro _ w2 ⟨rfl, H2⟩
 refine Z (lC O) (jL O (fun h1 => ?_) (fun h1 => ?_))
 ·(try simp only [aA] at h1)
  have hno : ¬ m l x = true := by have h9 := h1; simpa using h9
  refine iV (iJ O (iJ O (fC O (aB ?_))))
  refine ji (.inl O) results89 O O O ?_
  exact ⟨by rw [if_neg hno]; rfl, hback H2.right.f4.f4.f4.f4⟩
 ·(try simp only [aA] at h1)
  have hyes : m l x = true := by have h9 := h1; simpa using h9
  refine gQ (aO ?_)
  have Ez := H2.drew
  have je := V.kp (Ez.f5.f5.f5.f5.f5)
  refine y9 [4] je O (iU 0 O je O (iU 1 O je O (jB 2 O je (fun _ => y5 O O) (jQ 4 O je (fun W hW => kF bZ O ((Kp.h hW).f3).get.2 O) (nD 3 O (xW O func90 (UN (g := fun y => g l y b) (I := I l) Ez (fun W y HW hy => ⟨_, [], _, _, _, O, func91, O, O, (UO (F := dW pm (.cells #[mv] 66 (0, 0)) • dW pw (.cells #[.bool t] 4 (0, 0)) • F) (HW.of_eq (by ac_rfl)) hf (fun W HW => hr W HW.right.right) hl hy).mono fun u W2 h => ⟨h.1, h.2.of_eq (by ac_rfl)⟩⟩) (hI x hyes hx) hn)) ?_)))))
  rintro _ w3 ⟨rfl, H3⟩
  have Bv := V.kp (H3.f5.f5.f5.f5.f5)
  refine eG Bv (fun W hW => (Kp.h hW).f5.f5.f5.f5.f5) ?_
  refine jB 5 O Bv (fun _ => dR O) (jB 6 O Bv (fun _ => dR O) (jB 7 O Bv (fun _ => dR O) (ru (aW (nO ?_)))))
  refine ji (.inl O) results89 O O O ?_
  exact ⟨by rw [if_pos hyes]; rfl, hback H3.right.f4.f4.f4.f4⟩
end
end Go.Proofs.YtpdeedplgmbopaaGreatDoor
end
