import Derived.Test.YtpdeedplgmbopaaGreatDoorZ4
import Derived.Test.YtpdeedplgmbopaaGreatDoorZ13
import Derived.Test.YtpdeedplgmbopaaGreatDoorZ17
import Derived.Test.YtpdeedplgmbopaaGreatDoorZ14
import Derived.Test.YtpdeedplgmbopaaGreatDoorZ16
import Derived.Test.YtpdeedplgmbopaaGreatDoorZ10
import Derived.Test.YtpdeedplgmbopaaGreatDoorZ15
import Derived.Test.YtpdeedplgmbopaaGreatDoorZ11
import Derived.Test.YtpdeedplgmbopaaGreatDoorZ12
import Derived.Test.YtpdeedplgmbopaaGreatDoorZ9
set_option linter.unusedSimpArgs false
set_option linter.unusedVariables false
/- Texts of mine, joined, their names in short: VD Atom2 EdCl VDo VB VGo. -/
section
namespace Go.Proofs.YtpdeedplgmbopaaGreatDoor
open Go.RowKit
open _root_.Go.Proofs.Tryz
abbrev VC (c m e : Nat) (name : ByteArray) (kv : Value) (n : Int) (g : Bool) (lv : Value) (p : Int) : HP := dW c (.cells #[.pointer (some ⟨m, 0, none⟩), .pointer (some ⟨e, 0, none⟩), .string name, kv, .int .i64 n, .bool g, lv, .int .i64 p] 130 (0, 0))
namespace bn
variable (s : bn)
def su : Prop := s.c.mode = 2 ∧ 0 < s.c.L.length ∧ s.c.pt = s.c.L.length
instance : Decidable s.su := by unfold su; infer_instance
def D5 : Int := if s.su then s.sU ((s.c.L.length : Int) - 1) else 0
def D6 : bn := if s.su then s.lC ((s.c.L.length : Int) - 1) else s
end bn
section
variable {w0 w : World} {F : HP} {c m e : Nat} {s : bn} {name : ByteArray} {kv lv : Value} {n p : Int} {g : Bool}
theorem PY (H : V w0 w (VC c m e name kv n g lv p • eP e s • F)) : iE prog 75 #[.pointer (some ⟨c, 0, none⟩)] w fun v w' => v = .int .i64 s.D5 ∧ V w0 w' (VC c m e name kv n g lv p • eP e s.D6 • F) := by
 have Ym : s.c.L.length ≤ 1024 := by
  obtain ⟨pb, pr, pw, pt, pm, ph, bl, pv, es, u0, u1, u2, u3, u4, u5, u6, u7, u8, u9, ua, h, _, _, H2⟩ := H.f2.GI
  obtain ⟨a, c, xs, f, t, h1, h2, h3, h4, h5, h6, h7, _⟩ := H2.f2.buf
  exact h4
 refine iZ func75 ntmps75 ?_
 refine jQ O (bQ O (dK O (bJ 1 bC O sizeOf37 O (fM iD O (H).get.2 O (dS O func28 (qE H.f2) ?_)))))
 rintro _ w1 ⟨u1, rfl, H1⟩
 refine kD (iC (l := [_, _, _]) H1 zeroValue46 O) ?_
 rintro _ w2 ⟨b2, rfl, H2⟩
 refine aJ (dB 0 (l' := [_, _, _]) (us := [_, _, _]) H2 sizeOf46 O O O (aZ (by first | rfl | exact Rd.one ((H2.f2).aS)) (aG (aG bU))) O O) ?_
 rintro _ w3 H3
 refine qQ (bQ O (dK O (bJ 1 bC O sizeOf37 O (fM iD O (H3.f4).get.2 O (dS O func23 (PX H3.f3) ?_)))))
 rintro _ w4 ⟨u4, ks4, us4, sv4, rfl, H4⟩
 refine Z (rZ 3 jr O O (dA aH O) O O) (Z (dX O O) (jG O (fun h1 => ?_) (fun h1 => ?_)))
 ·(try simp only [aA] at h1)
  refine bg (bJ 0 iO O dh O (bg (fM aj O (H4.f6).get.2 O (bg (Z (iM ((H4.f7).aS) aj O) (bg (Z (dY O O) (iU O O (jG O (fun h2 => ?_) (fun h2 => ?_))))))))))
  ·(try simp only [aA] at h2)
   refine bg (bJ 1 iO O ay O (bg (fM aH O (H4.f6).get.2 O (bg (bJ 0 iO O dh O (bg (fM aj O (H4.f6).get.2 O (bg (Z (iM ((H4.f7).aS) aj O) (bg (Z (dX O O) (iU O O (jB O (fun h3 => ?_) (fun h3 => ?_))))))))))))))
   ·(try simp only [aA] at h3)
    refine aN ?_
    have adC := H4.drew
    have GZ := V.kp (adC.f8.f8.f8.f8.f8.f8.f8.f8)
    refine yH [3, 5] GZ O (iQ 0 O GZ O (jU 1 O GZ O (gU 2 O GZ 1 bC O sizeOf37 O (jO 3 O GZ (fun W hW => jV iD O ((Kp.h hW).f8).get.2 O) (gU 4 O GZ 0 iO O dh O (jO 5 O GZ (fun W hW => jV aj O ((Kp.h hW).f6).get.2 O) (jC 6 O GZ (fun _ => iM ((adC.f7).aS) aj O) (jC 7 O GZ (fun _ => iV O O (by omega)) (mZ 8 O (xq O func30 (uY adC.f5)) ?_)))))))))
    rintro _ w5 ⟨rfl, H5⟩
    have FC := V.kp (H5.f8.f8.f8.f8.f8.f8.f8.f8)
    refine iG FC (by kernel_rfl) ?_
    refine jC 9 O FC (fun _ => dR O) (qV (aX (nI (aB (dL results75 O ?_)))))
    have hp : s.su := by unfold bn.su; omega
    exact ⟨by unfold bn.D5; rw [if_pos hp], by unfold bn.D6; rw [if_pos hp]; exact H5.f2.right.f2.right.f2.right.f2.right.f2.right.f2.right.f2⟩
   ·(try simp only [aA] at h3)
    refine gG (jM O (dL results75 O ?_))
    have hp : ¬ s.su := by unfold bn.su; omega
    exact ⟨by unfold bn.D5; rw [if_neg hp], by unfold bn.D6; rw [if_neg hp]; exact H4.right.right.right.right.f2.right.f2.right.f2⟩
  ·(try simp only [aA] at h2)
   refine bF (bF (bF (bF (bF (bF (iH O O (iJ (qo (gG (jM O (dL results75 O ?_)))))))))))
   have hp : ¬ s.su := by unfold bn.su; omega
   exact ⟨by unfold bn.D5; rw [if_neg hp], by unfold bn.D6; rw [if_neg hp]; exact H4.right.right.right.right.f2.right.f2.right.f2⟩
 ·(try simp only [aA] at h1)
  refine bF (bF (bF (bF (iH O O (bT O (bF (bF (bF (bF (bF (bF (iH O O (iJ (qo (gG (jM O (dL results75 O ?_)))))))))))))))))
  have hp : ¬ s.su := by unfold bn.su; omega
  exact ⟨by unfold bn.D5; rw [if_neg hp], by unfold bn.D6; rw [if_neg hp]; exact H4.right.right.right.right.f2.right.f2.right.f2⟩
theorem PZ (H : V w0 w F) : iE prog 125 #[.string name] w fun v w' => v = .tuple #[.bool (decide (zJ name ∨ rY name)), .bool (decide (zJ name))] ∧ V w0 w' F := by
  refine iZ func125 ntmps125 ?_
  refine iR (iK O (uZ O (bQ O (iJ (aY ?_)))))
  refine kT [(4, _)] (fun (_ : Unit) => [(5, .bool (decide (zJ name)))]) (fun (_ : Unit) W => V w0 W F) lU ?_ ?_
  · rintro _ w1 HJ
    dsimp only [List.cons_append, List.nil_append]
    refine bD O (fun h1 => ?_) (fun h1 => ?_)
    · (try simp only [aA] at h1)
      refine iR (iK O (fB O (aT (aB (NR results125 O O ?_)))))
      have ht : zJ name := by assumption
      exact ⟨by rw [decide_eq_true ht, decide_eq_true (Or.inl ht)], HJ⟩
    · (try simp only [aA] at h1)
      refine kT [] (fun (_ : Unit) => [(10, .bool (decide (rY name)))]) (fun (_ : Unit) W => V w0 W F) (Sub.nil _) ?_ ?_
      · rintro _ w2 HK
        dsimp only [List.cons_append, List.nil_append]
        refine bD O (fun h2 => ?_) (fun h2 => ?_)
        · (try simp only [aA] at h2)
          refine iR (iK O (fB O (aT (aB (NR results125 O O ?_)))))
          have ht : ¬ zJ name := by assumption
          have hc : rY name := by assumption
          exact ⟨by rw [decide_eq_false ht, decide_eq_true (Or.inr hc)], HK⟩
        · (try simp only [aA] at h2)
          refine cZ (aK (aX (iR (iK O (fB O (NR results125 O O ?_))))))
          have ht : ¬ zJ name := by assumption
          have hc : ¬ rY name := by assumption
          exact ⟨by rw [decide_eq_false ht, decide_eq_false (fun h => h.elim ht hc)], HK⟩
      · skip
        refine iR (Z (dU O O) (fG O (bD O (fun h3 => ?_) (fun h3 => ?_))))
        · (try simp only [aA] at h3)
          refine cZ ?_
          refine dw (()) ?_ ?_ ?_
          · exact (Sub.jv O (by first | exact rX (beq_iff_eq.2 (by assumption)) (by unfold rY; first | exact .inl (by assumption) | exact .inr (.inl (by assumption)) | exact .inr (.inr (.inl (by assumption))) | exact .inr (.inr (.inr (.inl (by assumption)))) | exact .inr (.inr (.inr (.inr (by assumption))))) | exact congrArg Value.bool (by rw [Bool.eq_iff_iff, decide_eq_true_iff, beq_iff_eq]; unfold rY; exact ⟨fun h => .inr (.inr (.inr (.inr h))), fun h => by rcases h with h | h | h | h | h <;> first | exact h | exact absurd h (by assumption)⟩)) (Sub.nil _))
          · exact (Sub.nil _)
          · (try dsimp only)
            first | done | exact HJ
        · (try simp only [aA] at h3)
          refine iR (Z (dU O O) (fG O (bD O (fun h4 => ?_) (fun h4 => ?_))))
          · (try simp only [aA] at h4)
            refine cZ ?_
            refine dw (()) ?_ ?_ ?_
            · exact (Sub.jv O (by first | exact rX (beq_iff_eq.2 (by assumption)) (by unfold rY; first | exact .inl (by assumption) | exact .inr (.inl (by assumption)) | exact .inr (.inr (.inl (by assumption))) | exact .inr (.inr (.inr (.inl (by assumption)))) | exact .inr (.inr (.inr (.inr (by assumption))))) | exact congrArg Value.bool (by rw [Bool.eq_iff_iff, decide_eq_true_iff, beq_iff_eq]; unfold rY; exact ⟨fun h => .inr (.inr (.inr (.inr h))), fun h => by rcases h with h | h | h | h | h <;> first | exact h | exact absurd h (by assumption)⟩)) (Sub.nil _))
            · exact (Sub.nil _)
            · (try dsimp only)
              first | done | exact HJ
          · (try simp only [aA] at h4)
            refine iR (Z (dU O O) (fG O (bD O (fun h5 => ?_) (fun h5 => ?_))))
            · (try simp only [aA] at h5)
              refine cZ ?_
              refine dw (()) ?_ ?_ ?_
              · exact (Sub.jv O (by first | exact rX (beq_iff_eq.2 (by assumption)) (by unfold rY; first | exact .inl (by assumption) | exact .inr (.inl (by assumption)) | exact .inr (.inr (.inl (by assumption))) | exact .inr (.inr (.inr (.inl (by assumption)))) | exact .inr (.inr (.inr (.inr (by assumption))))) | exact congrArg Value.bool (by rw [Bool.eq_iff_iff, decide_eq_true_iff, beq_iff_eq]; unfold rY; exact ⟨fun h => .inr (.inr (.inr (.inr h))), fun h => by rcases h with h | h | h | h | h <;> first | exact h | exact absurd h (by assumption)⟩)) (Sub.nil _))
              · exact (Sub.nil _)
              · (try dsimp only)
                first | done | exact HJ
            · (try simp only [aA] at h5)
              refine iR (Z (dU O O) (fG O (bD O (fun h6 => ?_) (fun h6 => ?_))))
              · (try simp only [aA] at h6)
                refine cZ ?_
                refine dw (()) ?_ ?_ ?_
                · exact (Sub.jv O (by first | exact rX (beq_iff_eq.2 (by assumption)) (by unfold rY; first | exact .inl (by assumption) | exact .inr (.inl (by assumption)) | exact .inr (.inr (.inl (by assumption))) | exact .inr (.inr (.inr (.inl (by assumption)))) | exact .inr (.inr (.inr (.inr (by assumption))))) | exact congrArg Value.bool (by rw [Bool.eq_iff_iff, decide_eq_true_iff, beq_iff_eq]; unfold rY; exact ⟨fun h => .inr (.inr (.inr (.inr h))), fun h => by rcases h with h | h | h | h | h <;> first | exact h | exact absurd h (by assumption)⟩)) (Sub.nil _))
                · exact (Sub.nil _)
                · (try dsimp only)
                  first | done | exact HJ
              · (try simp only [aA] at h6)
                refine aC (Z (dU O O) (iK O (bW ?_)))
                refine dw (()) ?_ ?_ ?_
                · exact (Sub.jv O (by first | exact rX (beq_iff_eq.2 (by assumption)) (by unfold rY; first | exact .inl (by assumption) | exact .inr (.inl (by assumption)) | exact .inr (.inr (.inl (by assumption))) | exact .inr (.inr (.inr (.inl (by assumption)))) | exact .inr (.inr (.inr (.inr (by assumption))))) | exact congrArg Value.bool (by rw [Bool.eq_iff_iff, decide_eq_true_iff, beq_iff_eq]; unfold rY; exact ⟨fun h => .inr (.inr (.inr (.inr h))), fun h => by rcases h with h | h | h | h | h <;> first | exact h | exact absurd h (by assumption)⟩)) (Sub.nil _))
                · exact (Sub.nil _)
                · (try dsimp only)
                  first | done | exact HJ
  · skip
    refine iR (Z (dU O O) (fG O (bD O (fun h7 => ?_) (fun h7 => ?_))))
    · (try simp only [aA] at h7)
      refine cZ ?_
      refine dw (()) ?_ ?_ ?_
      · exact (Sub.jv O (by first | exact rX (beq_iff_eq.2 (by assumption)) (by unfold zJ; first | exact .inl (by assumption) | exact .inr (.inl (by assumption)) | exact .inr (.inr (.inl (by assumption))) | exact .inr (.inr (.inr (by assumption)))) | exact congrArg Value.bool (by rw [Bool.eq_iff_iff, decide_eq_true_iff, beq_iff_eq]; unfold zJ; exact ⟨fun h => .inr (.inr (.inr h)), fun h => by rcases h with h | h | h | h <;> first | exact h | exact absurd h (by assumption)⟩)) (Sub.nil _))
      · exact lU
      · (try dsimp only)
        first | done | exact H
    · (try simp only [aA] at h7)
      refine iR (Z (dU O O) (fG O (bD O (fun h8 => ?_) (fun h8 => ?_))))
      · (try simp only [aA] at h8)
        refine cZ ?_
        refine dw (()) ?_ ?_ ?_
        · exact (Sub.jv O (by first | exact rX (beq_iff_eq.2 (by assumption)) (by unfold zJ; first | exact .inl (by assumption) | exact .inr (.inl (by assumption)) | exact .inr (.inr (.inl (by assumption))) | exact .inr (.inr (.inr (by assumption)))) | exact congrArg Value.bool (by rw [Bool.eq_iff_iff, decide_eq_true_iff, beq_iff_eq]; unfold zJ; exact ⟨fun h => .inr (.inr (.inr h)), fun h => by rcases h with h | h | h | h <;> first | exact h | exact absurd h (by assumption)⟩)) (Sub.nil _))
        · exact lU
        · (try dsimp only)
          first | done | exact H
      · (try simp only [aA] at h8)
        refine iR (Z (dU O O) (fG O (bD O (fun h9 => ?_) (fun h9 => ?_))))
        · (try simp only [aA] at h9)
          refine cZ ?_
          refine dw (()) ?_ ?_ ?_
          · exact (Sub.jv O (by first | exact rX (beq_iff_eq.2 (by assumption)) (by unfold zJ; first | exact .inl (by assumption) | exact .inr (.inl (by assumption)) | exact .inr (.inr (.inl (by assumption))) | exact .inr (.inr (.inr (by assumption)))) | exact congrArg Value.bool (by rw [Bool.eq_iff_iff, decide_eq_true_iff, beq_iff_eq]; unfold zJ; exact ⟨fun h => .inr (.inr (.inr h)), fun h => by rcases h with h | h | h | h <;> first | exact h | exact absurd h (by assumption)⟩)) (Sub.nil _))
          · exact lU
          · (try dsimp only)
            first | done | exact H
        · (try simp only [aA] at h9)
          refine aC (Z (dU O O) (iK O (bW ?_)))
          refine dw (()) ?_ ?_ ?_
          · exact (Sub.jv O (by first | exact rX (beq_iff_eq.2 (by assumption)) (by unfold zJ; first | exact .inl (by assumption) | exact .inr (.inl (by assumption)) | exact .inr (.inr (.inl (by assumption))) | exact .inr (.inr (.inr (by assumption)))) | exact congrArg Value.bool (by rw [Bool.eq_iff_iff, decide_eq_true_iff, beq_iff_eq]; unfold zJ; exact ⟨fun h => .inr (.inr (.inr h)), fun h => by rcases h with h | h | h | h <;> first | exact h | exact absurd h (by assumption)⟩)) (Sub.nil _))
          · exact lU
          · (try dsimp only)
            first | done | exact H
end
end Go.Proofs.YtpdeedplgmbopaaGreatDoor
end
section
namespace Go.Proofs.YtpdeedplgmbopaaGreatDoor
open Go.RowKit Go.Lib
section
variable {P : Program} {L : List (Nat × Value)} {w0 w : World} {F : HP} {ty : TypeId} {b : Nat} {v d : Int} {t : TypeId}
theorem Sl {u : Value} (hc : w.cell? ⟨b, 0, none⟩ = some u) (hz : w.frozen? ⟨b, 0, none⟩ = false) : (Extern.Atomic.storeT #[.pointer (some ⟨b, 0, none⟩), .int .i64 d]).run P w = .ok Extern.Atomic.none_ (w.setCell ⟨b, 0, none⟩ (.int .i64 d)) := by
  change Sem.run P (do store (← asAddr (.pointer (some ⟨b, 0, none⟩))) (.int .i64 d) .atomic; pure Extern.Atomic.none_) w = _
  simp [asAddr, run_store _ _ _ _ _ (rfl : (Value.int .i64 d).oneCell' = true), hc, hz, Result.andThen]
theorem XO {f : FuncId} {args : List Operand} {ts : Array TypeId} {fn : Func} (H : V w0 w (dW b (.cells #[.int .i64 v] t (0, 0)) • F)) (ha : F8 L args = some [.pointer (some ⟨b, 0, none⟩), .int .i64 d])
    (hf : P.funcs[f]? = some fn) (hname : (fn.name == "runtime.NumGoroutine") = false) (hb : fn.body.isNone = true) (hn : Extern.findNext fn = none) (he : Extern.find fn = some Extern.Atomic.storeT) :
    xk P L (.call ⟨.value (.func f), args.toArray, ts⟩) ty w fun u w' => V w0 w' (dW b (.cells #[.int .i64 d] t (0, 0)) • F) :=
  Zk ha hf hname hb hn he (Sl (kF H.get.2 rfl) (Dk H.get.2)) (H.setCell (i := 0) _)
theorem Ls (H : V w0 w (dW b (.cells #[.int .i64 v] t (0, 0)) • F)) : iE Tryz.prog 123 #[.pointer (some ⟨b, 0, none⟩), .int .i64 d] w fun u w' => V w0 w' (dW b (.cells #[.int .i64 d] t (0, 0)) • F) := by
 refine oV Tryz.func123 Tryz.ntmps123 ?_
 refine aC (nG O O (bJ 0 Tryz.underlying161 O Tryz.sizeOf2 O (bT O (kD (XO H O Tryz.func159 O O (by kernel_rfl) (by kernel_rfl)) ?_))))
 rintro _ w1 H1
 refine bW (lM (.inr O) Tryz.results123 ?_)
 exact H1
end
end Go.Proofs.YtpdeedplgmbopaaGreatDoor
end
section
namespace Go.Proofs.YtpdeedplgmbopaaGreatDoor
open Go.RowKit
open _root_.Go.Proofs.Tryz
section
variable {w0 w : World} {F : HP} {e : Nat} {s : bn}
theorem MS (H : V w0 w (eP e s • F)) (hi : s.inn = false) : iE prog 70 #[.pointer (some ⟨e, 0, none⟩)] w fun v w' => ∃ q, v = .pointer (some ⟨q, 0, none⟩) ∧ V w0 w' (eP e s • F) := by
 refine iZ func70 ntmps70 ?_
 refine jQ O (aN (bQ O (dS O func65 (rW H) ?_)))
 rintro _ _ ⟨rfl, rfl⟩
 refine iJ (qo (gG (aN ?_)))
 obtain ⟨wM, wO, wP, wQ, wR, wS, wU, wV, uN, tu, tC, tH, tJ, tK, tN, tV, tX, tY, tZ, uf, gK, dD, kM, iw⟩ := (H).GI
 have hwo := zG (iw.f11)
 simp only [List.all_cons, List.all_nil, Bool.and_true, Bool.and_eq_true] at hwo
 obtain ⟨o0, o1, o2, o3, o4, o5, o6, o7, o8, o9, oa⟩ := hwo
 have hon := (iw.f10).DC
 have hpl : s.put.length ≤ 16384 := by have h9 := gK.2.2.2.2.1; unfold gV at h9; omega
 refine aC (nG O O (Z (dM ah O sizeOf82 O O (iw).get.2) (kD (iC (l := [_, _, _, _, _, _, _, _, _, _, _, _, _, _, _, _, _, _, _, _, _, _, _, _, _, _, _, _, _, _, _, _, _, _]) iw zeroValue82 O) ?_)))
 rintro _ w3 ⟨b3, rfl, H3⟩
 refine aJ (dB 0 (l' := [_, _, _, _, _, _, _, _, _, _, _, _, _, _, _, _, _, _, _, _, _, _, _, _, _, _, _, _, _, _, _, _, _, _]) (us := [_, _, _, _, _, _, _, _, _, _, _, _, _, _, _, _, _, _, _, _, _, _, _, _, _, _, _, _, _, _, _, _, _, _]) H3 sizeOf82 O O O (aG (aG (aG (aG (aG (aG (aG (aG (aG (aG (aG (aG (aG (aG (aG (aG (aG (aG (aG (aG (aG (aG (aG (aG (aG (aG (aG (aG (aG (aG (aG (aG (aG (aZ (by first | rfl | exact Rd.one ((H3.f10).aS)) bU)))))))))))))))))))))))))))))))))) O O) ?_
 rintro _ w4 H4
 refine rG O (dK O (bJ 0 ah O aU O (Z (qx 0 (xs := [_, _, _, _, _, _, _, _, _, _, _]) aI O aU O O (H4.f2).get.2 O) (dS O func80 (Rl H4.f7.f7.f7.f7.f7) ?_))))
 rintro _ w5 ⟨qb5, qr5, qw5, qt5, qm5, rfl, H5⟩
 refine bJ 0 ah O aU O (aJ (dB 0 (l' := [_, _, _, _, _, _, _, _, _, _, _, _, _, _, _, _, _, _, _, _, _, _, _, _, _, _, _, _, _, _, _, _, _, _]) (us := [_, _, _, _, _, _, _, _, _, _, _]) H5.f11 aU O O O (aG (aG (aG (aG (aG (aG (aG (aG (aG (aG (aG bU))))))))))) O O) ?_)
 rintro _ w6 H6
 have Hd7 := H6.f5.right
 have Hd8 := Hd7.f2.right
 have Hd9 := Hd8.f2.right
 have abu := Hd9.f2.right
 have Ub := abu.f2.right
 refine qQ (bQ O (dK O (bJ 16 ah O aP O (fM bY O (Ub.f7).get.2 O (jB O (fun h => by exfalso; (try simp only [aA] at h); rw [hi] at h; simp at h) (fun h1 => ?_))))))
 (try simp only [aA] at h1)
 refine gG (bQ O (dK O (bJ 11 ah O sizeOf78 O (fM kX O (Ub.f7).get.2 O (dS O func109 (vT Ub.f8) ?_)))))
 rintro _ w12 ⟨q12, rfl, vZ⟩
 refine bJ 11 ah O sizeOf78 O (aJ (eX 11 vZ.f3 sizeOf78) ?_)
 rintro _ Qh wo
 have aby := wo.f2.right
 refine rG O (dK O (bJ 33 ah O bP O (fM aW O (aby.f8).get.2 O (dS O func122 (CZ aby (fun W HW => (HW.f10).aS) hon (by omega)) ?_))))
 rintro u15 QE zU
 refine bJ 33 ah O bP O (aJ (fP 33 (l' := [_, _, _, _, _, _, _, _, _, _, _, _, _, _, _, _, _, _, _, _, _, _, _, _, _, _, _, _, _, _, _, _, _, _]) zU.f2 bP O O (by first | rfl | exact Rd.one ((zU).aS)) O O) ?_)
 rintro _ w16 vw
 have Uc := vw.f2.right
 refine zk7 (Z (fC (zl := [.int .i64 0]) (pl := [(0, 0), (0, 0), (0, 1)]) [_] underlying161 zeroValue161 O (fun w => by kernel_rfl) O (.zero (zs := []) O (.zero (zs := []) O (.zero (zs := [.int .i64 0]) O .nil))) O) (kD (jL (l := [_]) Uc O O) ?_))
 rintro _ YD ⟨b18, rfl, EN⟩
 refine bJ 12 ah O sizeOf79 O (aJ (eX 12 EN.f2 sizeOf79) ?_)
 rintro _ w19 EF
 refine qQ ?_
 have P5 := EF.drew
 have Cj := V.kp (P5.f13.f13.f13.f13.f13.f13.f13.f13.f13.f13.f13.f13.f13)
 refine yH [1, 5] Cj O (gU 0 O Cj 12 ah O sizeOf79 O (jO 1 O Cj (fun W hW => jV underlying79 O ((Kp.h hW)).get.2 O) (iQ 2 O Cj O (jU 3 O Cj O (gU 4 O Cj 12 ah O sizeOf79 O (jO 5 O Cj (fun W hW => jV underlying79 O ((Kp.h hW).f9).get.2 O) (mZ 6 O (xq O func68 (pq P5.f10)) ?_)))))))
 rintro _ _ ⟨rfl, rfl⟩
 have DN := V.kp (P5.f13.f13.f13.f13.f13.f13.f13.f13.f13.f13.f13.f13.f13)
 refine eF DN (fun W hW => (Kp.h hW).f13.f13.f13.f13.f13.f13.f13.f13.f13.f13.f13.f13.f13) ?_
 refine mZ 7 O (xq O func123 (Ls P5.f2)) ?_
 rintro _ w21 vO
 have Z7 := V.kp (vO.f13.f13.f13.f13.f13.f13.f13.f13.f13.f13.f13.f13.f13)
 refine iG Z7 (by kernel_rfl) ?_
 refine qV (aX (jM O (dL results70 O ?_)))
 have ZM := vO.f13.f13.f13.f13.f7.f12.f12.f12.f12.f12.f13
 have ZN := V.iq (s := s) gK dD ZM
 exact ⟨_, O, ZN.f2.right.f2.right⟩
end
def Z8 (w0 : World) (name : ByteArray) (keys : List Int) (n : Int) (g : Bool) (s : bn) (M : VM) (Q : Int → bn → VM → Prop) : Prop := ∀ (F : HP) (W : World) (c m e : Nat) (kv lv : Value), V w0 W (VC c m e name kv n g lv s.c.pt • ku 21 .i32 lv s.c.L • oQ m M • eP e s • F) → jF w0 F .i32 kv keys →
  iE prog 124 #[.pointer (some ⟨c, 0, none⟩)] W fun v W' => ∃ x t M', Q x t M' ∧ v = .int .i64 x ∧ V w0 W' (VC c m e name kv n g lv s.c.pt • ku 21 .i32 lv s.c.L • oQ m M' • eP e t • F)
def VM.did (M : VM) (name : ByteArray) (keys : List Int) (n x : Int) : VM := if (zJ name ∨ rY name) ∧ x = 0 then { M with name := name, keys := keys, n := n, typed := [] } else M
def bn.Oo (t : bn) (x : Int) : Int := if x = 0 then t.D6.AO t.D5 else t.AO x
def bn.Tv (t : bn) (x : Int) : bn := if x = 0 then t.D6.jY t.D5 else t.jY x
def VM.doM (M M' : VM) (name : ByteArray) (keys : List Int) (n x r : Int) : VM := if r = 0 then M'.did name keys n x else M
section
variable {w0 w : World} {F : HP} {c m e : Nat} {s : bn} {name : ByteArray} {kv lv : Value} {keys : List Int} {n p x : Int} {g : Bool} {M M' : VM} {Q : Int → bn → VM → Prop}
theorem P6 (h : zJ name ∨ rY name) (hx : x = 0) : M.did name keys n x = { M with name := name, keys := keys, n := n, typed := [] } := if_pos ⟨h, hx⟩
theorem FY (h : ¬ ((zJ name ∨ rY name) ∧ x = 0)) : M.did name keys n x = M := if_neg h
theorem XP (H : V w0 w (VC c m e name kv n g lv s.c.pt • ku 21 .i32 lv s.c.L • oQ m M • eP e s • F)) (hk : jF w0 F .i32 kv keys) (h1 : Z8 w0 name keys n g s M Q) (hkl : keys.length * 4 ≤ 140737488355328) (hw : nM name keys = 0) (hn : 1 ≤ n ∧ n ≤ 1000000) :
  iE prog 74 #[.pointer (some ⟨c, 0, none⟩)] w fun v w' => ∃ x t M', Q x t M' ∧ v = .int .i64 x ∧ V w0 w' (VC c m e name kv n g lv s.c.pt • ku 21 .i32 lv s.c.L • oQ m (M'.did name keys n x) • eP e t • F) := by
 refine iZ func74 ntmps74 ?_
 refine jQ O (bQ O (dS O func124 (h1 _ _ _ _ _ _ _ H hk) ?_))
 rintro _ w1 ⟨x, t, M2, hQ, rfl, H1⟩
 refine uZ O (bQ O (dK O (bJ 2 bC O nD O (fM jS O (H1).get.2 O (dS O func125 (PZ H1) ?_)))))
 rintro _ w2 ⟨rfl, H2⟩
 refine bT O (uH O O (uH O O (iK O (fG O (bQ O (jG O (fun h1 => ?_) (fun h1 => ?_)))))))
 ·(try simp only [aA] at h1)
  refine bg (bT O (bg (Z (dX O O) (iU O O (jB O (fun h2 => ?_) (fun h2 => ?_))))))
  ·(try simp only [aA] at h2)
   obtain ⟨Rz, RD, RF, zK, zX⟩ := (H2.f3).vm
   have hcg : zJ name ∨ rY name := by assumption
   have hx0 : x = 0 := by assumption
   have ae4 := zX.drew
   have xU := V.kp (ae4.f7.f7.f7.f7.f7.f7.f7)
   refine yH [3, 7, 11, 16] xU O (iQ 0 O xU O (jU 1 O xU O (gU 2 O xU 0 bC O sizeOf41 O (jO 3 O xU (fun W hW => jV jJ O ((Kp.h hW).f5).get.2 O) (iQ 4 O xU O (jU 5 O xU O (gU 6 O xU 2 bC O nD O (jO 7 O xU (fun W hW => jV jS O ((Kp.h hW).f5).get.2 O) (iQ 8 O xU O (jU 9 O xU O (gU 10 O xU 3 bC O dh O (jO 11 O xU (fun W hW => jV aj O ((Kp.h hW).f5).get.2 O) (iQ 13 O xU O (jU 14 O xU O (gU 15 O xU 4 bC O ay O (jO 16 O xU (fun W hW => jV aH O ((Kp.h hW).f5).get.2 O) (mZ 12 O (xq O func71 (oK ae4 (fun W HW => hk _ (HW.right.right.right.right.right.right.right)) (by omega))) ?_)))))))))))))))))
   rintro u4 w4 H4
   have zq := V.kp (H4.f8.f8.f8.f8.f8.f8.f8.f8)
   refine eF zq (fun W hW => (Kp.h hW).right.f7.f7.f7.f7.f7.f7.f7) ?_
   refine jC 17 O zq (fun _ => fC (zl := [.string .empty, .slice none 0 0, .int .i64 0, .slice none 0 0]) (pl := [(0, 1), (1, 1), (2, 1), (3, 1)]) [_, _, _, _] underlying117 zeroValue117 O (fun w => by kernel_rfl) O (.on (.one (Rd.one ((H4).aS)) (.on (.zero (zs := [.slice none 0 0]) O .nil)))) O) ?_
   refine jU 18 O zq O (gU 19 O zq 3 gZ O sizeOf117 O ?_)
   refine gB 20 O (by kernel_rfl) (dB 3 (l' := [_, _, _, _, _, _, _, _]) (us := [_, _, _, _]) H4.f2 sizeOf117 O O O (aG (aZ (by first | rfl | exact Rd.one ((H4).aS)) (aG (aG bU)))) O O) ?_
   rintro _ w5 H5
   have FC := V.kp (H5.f8.f8.f8.f8.f8.f8.f8.f8)
   refine iG FC (by kernel_rfl) ?_
   have Xg := H5.f2
   have Xh := Xg.lN
   have Ho8 := Xh.f3.f3
   have Yn := V.adq (M := { M2 with name := name, keys := keys, n := n, typed := [] }) ⟨hkl, by show ([] : List Int).length ≤ 1024; decide, .inr ⟨hcg, hw, hn.1, hn.2⟩⟩ rfl Ho8
   refine qV (aX (bQ O (fB O (dL results74 O ?_))))
   exact ⟨_, _, M2, hQ, O, by first | (rw [P6 hcg hx0]; exact Yn.f2.right.f2.right.f4.f2.f4.f4) | (rw [FY (fun hc => absurd hc.2 (by assumption))]; exact Yn.f2.right.f2.right.f4.f2.f4.f4) | (rw [FY (fun hc => absurd (decide_eq_true hc.1) (by simp only [*]; decide))]; exact Yn.f2.right.f2.right.f4.f2.f4.f4)⟩
  ·(try simp only [aA] at h2)
   refine gG (bQ O (fB O (dL results74 O ?_)))
   exact ⟨_, _, M2, hQ, O, by first | (rw [P6 hcg hx0]; exact H2.f4.f4.f4.f4) | (rw [FY (fun hc => absurd hc.2 (by assumption))]; exact H2.f4.f4.f4.f4) | (rw [FY (fun hc => absurd (decide_eq_true hc.1) (by simp only [*]; decide))]; exact H2.f4.f4.f4.f4)⟩
 ·(try simp only [aA] at h1)
  refine bF (bF (iH O O (iJ (qo (gG (bQ O (fB O (dL results74 O ?_))))))))
  exact ⟨_, _, M2, hQ, O, by first | (rw [P6 hcg hx0]; exact H2.f4.f4.f4.f4) | (rw [FY (fun hc => absurd hc.2 (by assumption))]; exact H2.f4.f4.f4.f4) | (rw [FY (fun hc => absurd (decide_eq_true hc.1) (by simp only [*]; decide))]; exact H2.f4.f4.f4.f4)⟩
theorem Ez (s : bn) (h : mM s) : 1 ≤ max s.count 1 ∧ max s.count 1 ≤ 1000000 := by
  have h := h.2.2.1
  unfold bn.count
  dsimp only
  by_cases h1 : s.given = true <;> by_cases h2 : s.arg < 0 <;> by_cases h3 : s.minus = true <;> simp only [h1, h2, h3, if_true, if_false, Bool.false_eq_true] <;> omega
theorem P7 (H : V w0 w (eP e s • F)) : mM s := by
  obtain ⟨pb, pr, pw, pt, pm, ph, bl, pv, es, u0, u1, u2, u3, u4, u5, u6, u7, u8, u9, ua, h, _⟩ := H.GI
  exact h
theorem P8 (H : V w0 w (oQ m M • eP e s • F)) (hi : s.inn = false) (hk : jF w0 F .i32 kv keys) (hkl : keys.length * 4 ≤ 140737488355328) (hw : nM name keys = 0) (hone : Z8 w0 name keys (max s.aV.count 1) s.aV.given s.aV M Q) :
  iE prog 24 #[.pointer (some ⟨m, 0, none⟩), .pointer (some ⟨e, 0, none⟩), .string name, kv] w fun v w' => ∃ x t M', Q x t M' ∧ v = .int .i64 (t.Oo x) ∧ V w0 w' (oQ m (M.doM M' name keys (max s.aV.count 1) x (t.Oo x)) • eP e (t.Tv x) • F) := by
 refine Qw func24 ntmps24 ?_
 refine jQ O (aN (aY (bQ O (dS O func69 (DW H) ?_))))
 rintro _ _ ⟨rfl, rfl⟩
 refine bT O (bg (bT O (bg (dS O func70 (MS H.f2 hi) ?_))))
 rintro _ w2 ⟨cl2, rfl, H2⟩
 refine bg (Z (jy iD O O) (iH O O (fG O (Qg O (fun h1 => ?_)))))
 (try simp only [aA] at h1)
 refine bQ O (bT O (dS O func16 (FT H2 (fun W HW => hk _ (HW.right.right))) ?_))
 rintro _ w3 ⟨rfl, H3⟩
 refine Z (dX O O) (fG O (bD O (fun h => by exfalso; (try simp only [aA] at h); rw [hw] at h; exact absurd h (by decide)) (fun h2 => ?_)))
 (try simp only [aA] at h2)
 refine bQ O (bT O (dS O func16 (FT H3 (fun W HW => hk _ (HW.right.right))) ?_))
 rintro _ w4 ⟨rfl, H4⟩
 refine Z (ig O O) (fG O (bD O (fun h => by exfalso; (try simp only [aA] at h); exact h hw) (fun h3 => ?_)))
 (try simp only [aA] at h3)
 refine cZ (aK (aX (aN (bQ O (dS O func29 (yO H4) ?_)))))
 rintro _ w5 ⟨rfl, H5⟩
 refine fG O (bQ O (Z (ig O O) (jB O (fun h => by exfalso; (try simp only [aA] at h); exact h (by unfold bn.BQ; rw [if_neg (by simp [hi])])) (fun h4 => ?_))))
 (try simp only [aA] at h4)
 refine gG (bQ O (dS O func38 (PN H5.f2) ?_))
 rintro _ w6 ⟨c6, rfl, H6⟩
 have hco := Ez s.aV (P7 H6.f3)
 refine fG O (bQ O (jR O O (bT O (dS O func71 (oK H6 (fun W HW => hk _ (HW.right.right.right)) (by omega)) ?_))))
 rintro u7 w7 H7
 refine bT O (dS O func72 (PO H7.f4) ?_)
 rintro _ w8 ⟨rfl, H8⟩
 refine Z (Vr O O) (bT O (dS O func73 (PS H8) ?_))
 rintro _ w9 ⟨rfl, H9⟩
 refine Z (fC (zl := [.pointer none, .pointer none, .string .empty, .slice none 0 0, .int .i64 0, .bool false, .slice none 0 0, .int .i64 0]) (pl := [(0, 1), (1, 1), (2, 1), (3, 1), (4, 1), (5, 1), (6, 1), (7, 1)]) [_, _, _, _, _, _, _, _] bC zeroValue130 O (fun w => by kernel_rfl) O (.on (.on (.on (.one (Rd.one ((H9.f2).aS)) (.on (.on (.zero (zs := [.slice none 0 0]) O (.zero (zs := [.int .i64 0]) O .nil)))))))) O) ?_
 refine kD (jL (l := [_, _, _, _, _, _, _, _]) H9 O O) ?_
 rintro _ w10 ⟨b10, rfl, pR⟩
 refine fG O (bQ O (dS O func28 (qE pR.f2) ?_))
 rintro _ Fv ⟨u11, rfl, tq⟩
 refine kD (iC (l := [_, _, _]) tq zeroValue46 O) ?_
 rintro _ w12 ⟨b12, rfl, vZ⟩
 refine aJ (dB 0 (l' := [_, _, _]) (us := [_, _, _]) vZ sizeOf46 O O O (aZ (by first | rfl | exact Rd.one ((vZ.f2).aS)) (aG (aG bU))) O O) ?_
 rintro _ Qh wo
 refine qQ ?_
 have UQ := wo.drew
 have yS := V.kp (UQ.f4.right.f6.f6.f6.f6.f6.f6)
 refine yH [3, 5] yS O (iQ 0 O yS O (iQ 1 O yS O (gU 2 O yS 0 iO O dh O (jO 3 O yS (fun W hW => jV aj O ((Kp.h hW)).get.2 O) (gU 4 O yS 1 iO O ay O (jO 5 O yS (fun W hW => jV aH O ((Kp.h hW)).get.2 O) (jU 6 O yS O (gU 7 O yS 6 bC O dh O ?_))))))))
 refine gB 8 O (by kernel_rfl) (fP 6 (l' := [_, _, _, _, _, _, _, _]) UQ.f4 dh O O (by first | rfl | exact Rd.one ((UQ.f2).aS)) O O) ?_
 rintro _ OQ AZ
 have Gv := V.kp (AZ.f7.f7.f7.f7.f7.f7.f7)
 refine eF Gv (fun W hW => (Kp.h hW).right.f6.f6.f6.f6.f6.f6) ?_
 refine jU 9 O Gv O (gU 10 O Gv 7 bC O ay O ?_)
 refine gB 11 O (by kernel_rfl) (fP 7 (l' := [_, _, _, _, _, _, _, _]) AZ ay O O (by first | rfl | assumption) O O) ?_
 rintro _ QE zU
 have yC := V.kp (zU.f7.f7.f7.f7.f7.f7.f7)
 refine iG yC (by kernel_rfl) ?_
 refine qV (aX (bQ O (dS O func74 (XP zU.f4.f7.f5.f4 (fun W HW => (HW.f2).aS) hone hkl hw hco) ?_)))
 rintro _ w16 ⟨x, t, M2, hQ, rfl, vw⟩
 refine uZ O (bQ O (Z (dX O O) (jB O (fun h5 => ?_) (fun h5 => ?_))))
 ·(try simp only [aA] at h5)
  have hx : x = 0 := h5
  refine aC (bT O (dS O func75 (PY vw.f4.f2) ?_))
  rintro _ YI ⟨rfl, Dh⟩
  refine uZ O (bQ O (bT O (dS O func31 (zM Dh.f2) ?_)))
  rintro _ YD ⟨rfl, EN⟩
  refine fG O (bQ O (Z (ig O O) (jB O (fun h6 => ?_) (fun h6 => ?_))))
  ·(try simp only [aA] at h6)
   obtain ⟨Rz, RD, RF, zK, zX⟩ := (EN.f4).vm
   obtain ⟨ae5, ae6, ae7, UR, G6⟩ := (zX.f10).vm
   refine aC (jR O O (dK O (Z (dM gZ O sizeOf119 O O (G6).get.2) (dK O (aJ (dB 0 (l' := [_, _, _, _, _, _, _, _]) (us := [_, _, _, _, _, _, _, _]) G6.f5 sizeOf119 O O O (aG (aG (aG (aG (aZ (by first | rfl | exact Rd.one ((G6.f3).kR)) (aG (aZ (by first | rfl | exact Rd.one ((G6.f4).kR)) (aG bU)))))))) O O) ?_)))))
   rintro _ w21 vO
   have agK := vO.f5.f5.f5.f4
   have abz := V.Fb (M := M) UR agK
   refine rG O (fB O (dL results24 O ?_))
   refine ⟨x, t, M2, hQ, by unfold bn.Oo; first | rw [if_pos hx] | rw [if_neg hx], ?_⟩
   unfold VM.doM bn.Oo bn.Tv
   first | (rw [if_pos hx, if_pos hx, if_pos (by assumption)]; exact abz.f2.right.f2.right.f2.right.f2.right.f3.right.f3.right.f3.right.f3.right.f2.f2) | (rw [if_pos hx, if_pos hx, if_neg (by assumption)]; exact abz.f2.right.f2.right.f2.right.f2.right.f3.right.f3.right.f3.right.f3.right.f2.f2) | (rw [if_neg hx, if_neg hx, if_pos (by assumption)]; exact abz.f2.right.f2.right.f2.right.f2.right.f3.right.f3.right.f3.right.f3.right.f2.f2) | (rw [if_neg hx, if_neg hx, if_neg (by assumption)]; exact abz.f2.right.f2.right.f2.right.f2.right.f3.right.f3.right.f3.right.f3.right.f2.f2)
  ·(try simp only [aA] at h6)
   refine gG (bQ O (fB O (dL results24 O ?_)))
   refine ⟨x, t, M2, hQ, by unfold bn.Oo; first | rw [if_pos hx] | rw [if_neg hx], ?_⟩
   unfold VM.doM bn.Oo bn.Tv
   first | (rw [if_pos hx, if_pos hx, if_pos (by assumption)]; exact EN.f2.right.f2.right.f3.right.f3.right.f3.right.f2) | (rw [if_pos hx, if_pos hx, if_neg (by assumption)]; exact EN.f2.right.f2.right.f3.right.f3.right.f3.right.f2) | (rw [if_neg hx, if_neg hx, if_pos (by assumption)]; exact EN.f2.right.f2.right.f3.right.f3.right.f3.right.f2) | (rw [if_neg hx, if_neg hx, if_neg (by assumption)]; exact EN.f2.right.f2.right.f3.right.f3.right.f3.right.f2)
 ·(try simp only [aA] at h5)
  have hx : ¬ x = 0 := h5
  refine gG (aN (bQ O (bT O (dS O func31 (zM vw.f4) ?_))))
  rintro _ w24 ⟨rfl, Qy⟩
  refine fG O (bQ O (Z (ig O O) (jB O (fun h7 => ?_) (fun h7 => ?_))))
  ·(try simp only [aA] at h7)
   obtain ⟨Rz, RD, RF, zK, zX⟩ := (Qy.f4).vm
   obtain ⟨ae5, ae6, ae7, UR, G6⟩ := (zX.f10).vm
   refine aC (jR O O (dK O (Z (dM gZ O sizeOf119 O O (G6).get.2) (dK O (aJ (dB 0 (l' := [_, _, _, _, _, _, _, _]) (us := [_, _, _, _, _, _, _, _]) G6.f5 sizeOf119 O O O (aG (aG (aG (aG (aZ (by first | rfl | exact Rd.one ((G6.f3).kR)) (aG (aZ (by first | rfl | exact Rd.one ((G6.f4).kR)) (aG bU)))))))) O O) ?_)))))
   rintro _ w27 NS
   have ac6 := NS.f5.f5.f5.f4
   have Xo := V.Fb (M := M) UR ac6
   refine rG O (fB O (dL results24 O ?_))
   refine ⟨x, t, M2, hQ, by unfold bn.Oo; first | rw [if_pos hx] | rw [if_neg hx], ?_⟩
   unfold VM.doM bn.Oo bn.Tv
   first | (rw [if_pos hx, if_pos hx, if_pos (by assumption)]; exact Xo.f2.right.f2.right.f2.right.f2.right.f3.right.f3.right.f3.right.f3.right.f2.f2) | (rw [if_pos hx, if_pos hx, if_neg (by assumption)]; exact Xo.f2.right.f2.right.f2.right.f2.right.f3.right.f3.right.f3.right.f3.right.f2.f2) | (rw [if_neg hx, if_neg hx, if_pos (by assumption)]; exact Xo.f2.right.f2.right.f2.right.f2.right.f3.right.f3.right.f3.right.f3.right.f2.f2) | (rw [if_neg hx, if_neg hx, if_neg (by assumption)]; exact Xo.f2.right.f2.right.f2.right.f2.right.f3.right.f3.right.f3.right.f3.right.f2.f2)
  ·(try simp only [aA] at h7)
   refine gG (bQ O (fB O (dL results24 O ?_)))
   refine ⟨x, t, M2, hQ, by unfold bn.Oo; first | rw [if_pos hx] | rw [if_neg hx], ?_⟩
   unfold VM.doM bn.Oo bn.Tv
   first | (rw [if_pos hx, if_pos hx, if_pos (by assumption)]; exact Qy.f2.right.f2.right.f3.right.f3.right.f3.right.f2) | (rw [if_pos hx, if_pos hx, if_neg (by assumption)]; exact Qy.f2.right.f2.right.f3.right.f3.right.f3.right.f2) | (rw [if_neg hx, if_neg hx, if_pos (by assumption)]; exact Qy.f2.right.f2.right.f3.right.f3.right.f3.right.f2) | (rw [if_neg hx, if_neg hx, if_neg (by assumption)]; exact Qy.f2.right.f2.right.f3.right.f3.right.f3.right.f2)
end
end Go.Proofs.YtpdeedplgmbopaaGreatDoor
end
section
namespace Go.Proofs.YtpdeedplgmbopaaGreatDoor
open Go.RowKit Go.Lib
def abA : ByteArray := ⟨#[40, 91, 123, 41, 93, 125]⟩
def Sm : ByteArray := ⟨#[41, 93, 125]⟩
def Sr : ByteArray := ⟨#[40, 91, 123]⟩
def Bz (r : Int) : Int := if r = 40 then 0 else if r = 91 then 1 else if r = 123 then 2 else if r = 41 then 3 else if r = 93 then 4 else 5
theorem JE {r : Int} (h : yP r = true) : r = 40 ∨ r = 91 ∨ r = 123 ∨ r = 41 ∨ r = 93 ∨ r = 125 := by unfold yP at h; simp at h; omega
theorem Wj {r : Int} : r ∈ zW abA ↔ yP r = true := by
  rw [show zW abA = [40, 91, 123, 41, 93, 125] from by rfl]
  unfold yP; simp; omega
theorem adD {r : Int} (h : yP r = true) : indexByte abA.data.toList (r % 256).toNat.toUInt8 = Bz r := by
  rcases JE h with rfl | rfl | rfl | rfl | rfl | rfl <;> rfl
theorem Z9 (r : Int) : 0 ≤ Bz r ∧ Bz r ≤ 5 := by
  unfold Bz
  repeat' split
  all_goals omega
theorem JF {r : Int} (h : yP r = true) (hk : Bz r < 3) : sb Sm (Bz r % 3).toNat = Il r ∧ GL r = 1 := by
  rcases JE h with rfl | rfl | rfl | rfl | rfl | rfl <;> first | exact ⟨rfl, rfl⟩ | exact absurd hk (by decide)
theorem JG {r : Int} (h : yP r = true) (hk : 3 ≤ Bz r) : sb Sr (Bz r - 3).toNat = Il r ∧ GL r = -1 := by
  rcases JE h with rfl | rfl | rfl | rfl | rfl | rfl <;> first | exact ⟨rfl, rfl⟩ | exact absurd hk (by decide)
theorem abB (r : Int) : GL r = 1 ∨ GL r = -1 := by unfold GL; split <;> simp
theorem abC {r : Int} (h : yP r = true) : Il r ≠ r := by rcases JE h with rfl | rfl | rfl | rfl | rfl | rfl <;> decide
theorem abD (i : Nat) : 0 ≤ sb Sm i ∧ sb Sm i < 128 := acn (by decide) i
theorem abE (i : Nat) : 0 ≤ sb Sr i ∧ sb Sr i < 128 := acn (by decide) i
def zN (a b d x : Int) : Int := d + (if x = a then 1 else 0) - (if x = b then 1 else 0)
theorem XQ {a b d x : Int} (h : zN a b d x = 0) : KY a b d x = none := if_pos h
theorem aac {a b d x : Int} (h : ¬ zN a b d x = 0) : KY a b d x = some (zN a b d x) := if_neg h
theorem abF {a b d x : Int} (h : x = a) (hab : b ≠ a) : zN a b d x = d + 1 := by unfold zN; rw [if_pos h, if_neg (by omega)]; omega
theorem abG {a b d x : Int} (h : ¬ x = a) (hb : x = b) : zN a b d x = d - 1 := by unfold zN; rw [if_neg h, if_pos hb]; omega
theorem abH {a b d x : Int} (h : ¬ x = a) (hb : ¬ x = b) : zN a b d x = d := by unfold zN; rw [if_neg h, if_neg hb]; omega
theorem aad (a b d x : Int) : d - 1 ≤ zN a b d x ∧ zN a b d x ≤ d + 1 := by unfold zN; split <;> split <;> omega
section
variable {l : List Int} {x i j : Int}
theorem Sv (h : (l.length : Int) ≤ lG (fun r => !yP r) l x) : zH l x = (0, false, false) := if_pos h
theorem Fg (e : lG (fun r => !yP r) l x = i) (h : i < l.length) (hs : yE (GL (l.getD i.toNat 0)) (KY (l.getD i.toNat 0) (Il (l.getD i.toNat 0))) l 0 i = none) : zH l x = (0, false, false) := by
  unfold zH; rw [e, if_neg (by omega), hs]
theorem MV (e : lG (fun r => !yP r) l x = i) (h : i < l.length) (hs : yE (GL (l.getD i.toNat 0)) (KY (l.getD i.toNat 0) (Il (l.getD i.toNat 0))) l 0 i = some j) : zH l x = (j, true, true) := by
  unfold zH; rw [e, if_neg (by omega), hs]
end
section
variable {w0 w : World} {F : HP} {v : Value} {l : List Int} {x n key c r : Int} {s : ByteArray}
theorem XR (h : yP r = true) : iE Tryz.prog 98 #[.string ⟨#[40, 91, 123, 41, 93, 125]⟩, .int .u8 (r % 256)] w fun v w' => v = .int .i64 (Bz r) ∧ w = w' := GN.mono fun v w' h2 => ⟨h2.1.trans (congrArg (Value.int .i64) (adD h)), h2.2⟩
theorem P9 (H : V w0 w F) (hr : jF w0 F .i32 v l) (hx : 0 ≤ x ∧ x ≤ l.length) (Ym : l.length ≤ 4611686018427387904) : iE Tryz.prog 43 #[v, .int .i64 x] w fun u w' => u = Xx (zH l x) ∧ V w0 w' F := by
 refine oV Tryz.func43 Tryz.ntmps43 ?_
 refine iR (iK O (iK O (uZ O (bQ O (fG O (aY ?_))))))
 refine gW [(0, _)] (fun (i : Int) => [(7, .int .i64 i)]) (fun (i : Int) W => ((0 ≤ i ∧ i ≤ l.length) ∧ lG (fun r => !yP r) l i = lG (fun r => !yP r) l x) ∧ V w0 W F) (fun (i : Int) => (l.length - i).toNat) (x) lU lU ⟨⟨hx, O⟩, H⟩ ?_
 rintro i w1 ⟨⟨hi, hE⟩, HL⟩
 dsimp only [List.cons_append, List.nil_append]
 refine aN (bQ O (bT O (Z (iM (hr _ (HL)) aj O) (Z (fZ O O) (jB O (fun h1 => ?_) (fun h1 => ?_))))))
 ·(try simp only [aA] at h1)
  refine gG (aN (aY (aN (bQ O (bT O ?_)))))
  obtain ⟨bv, ov, cv, ev⟩ := gJ.rM (hr _ (HL)) (by omega)
  cases ev
  refine Z (dP aj bZ O O (by omega)) ?_
  refine Z (fK (dA bG O) O (by first | exact gJ.ni (hr _ (HL)) (by omega) | exact gJ.yc (hr _ (HL)) (by omega) | exact gJ.yx (hr _ (HL)) (by omega))) ?_
  refine dS O Tryz.func50 (BZ (s := abA) (by decide)) ?_
  rintro _ _ ⟨rfl, rfl⟩
  refine Z (lJ O) (jB O (fun h2 => ?_) (fun h2 => ?_))
  ·(try simp only [aA] at h2)
   have hno : yP (l.getD i.toNat 0) = false := by have h9 := h2; rw [← Bool.not_eq_true, ← Wj]; simpa using h9
   refine dO (aO (bI (aX (aC (bT O (Z (fJ O O (by omega)) (iK O (bW ?_))))))))
   refine dV (i + 1) ?_ ?_ ?_ ?_
   ·exact lU
   ·exact lU
   ·(try dsimp only)
    first | done | exact ⟨⟨by omega, (uy hi.1 (by omega) (by show (!yP _) = true; rw [hno]; rfl)).symm.trans hE⟩, HL⟩
   ·(try dsimp only); omega
  ·(try simp only [aA] at h2)
   have hbr : yP (l.getD i.toNat 0) = true := by have h9 := h2; rw [← Wj]; simpa using h9
   have hR : lG (fun r => !yP r) l x = i := hE.symm.trans (mP hi.1 (by omega) (by show ¬ (!yP _) = true; rw [hbr]; decide))
   have hkb := Z9 (l.getD i.toNat 0)
   refine gG (bQ O (bT O (Z (dP aj bZ O O (by omega)) ?_)))
   refine Z (fK (dA bG O) O (by first | exact gJ.ni (hr _ (HL)) (by omega) | exact gJ.yc (hr _ (HL)) (by omega) | exact gJ.yx (hr _ (HL)) (by omega))) ?_
   refine Z (Og O (by rw [Tryz.underlying21]; rfl) Tryz.underlying5) ?_
   refine dS O Tryz.func98 (XR hbr) ?_
   rintro _ _ ⟨rfl, rfl⟩
   refine uZ O ?_
   have adE := HL.drew
   have Lu := V.kp (adE)
   refine yH [2] Lu O (iQ 0 O Lu O ?_)
   refine jC 1 O Lu (fun _ => Yv O O (by omega) (by  omega)) ?_
   refine jO 2 O Lu (fun W hW => I8 jS O O (by exact ⟨by omega, by show _ < (3 : Int); omega⟩)) ?_
   refine jC 3 O Lu (fun _ => BH O (by rw [Tryz.underlying5]; rfl) bG (JB (by have := abD (Bz (l.getD i.toNat 0) % 3).toNat; show -2147483648 ≤ sb Sm _ ∧ sb Sm _ < 2147483648; omega))) ?_
   refine jC 4 O Lu (fun _ => dR O) (jC 5 O Lu (fun _ => dR O) (qV (aX ?_)))
   refine kT [(0, _), (7, _)] (fun (_ : Unit) => [(9, .int .i64 (GL (l.getD i.toNat 0))), (10, .int .i32 (Il (l.getD i.toNat 0)))]) (fun (_ : Unit) W => V w0 W F) uJ ?_ ?_
   ·rintro _ w4 HJ
    dsimp only [List.cons_append, List.nil_append]
    have hst := abB (l.getD i.toNat 0)
    have hne := abC hbr
    refine jQ O (aN (bQ O (fG O (aY ?_))))
    have hmi := Io (n := l.length) (i := i) hst (by omega) (by omega)
    refine gW [(0, _), (7, _), (9, _), (10, _)] (fun (⟨j, d⟩ : Int × Int) => [(11, .int .i64 d), (12, .int .i64 j)]) (fun (⟨j, d⟩ : Int × Int) W => ((-1 ≤ j ∧ j ≤ l.length) ∧ (d + E8 (GL (l.getD i.toNat 0)) l.length j ≤ l.length + 1 ∧ E8 (GL (l.getD i.toNat 0)) l.length j - d ≤ l.length + 1) ∧ yE (GL (l.getD i.toNat 0)) (KY (l.getD i.toNat 0) (Il (l.getD i.toNat 0))) l 0 i = yE (GL (l.getD i.toNat 0)) (KY (l.getD i.toNat 0) (Il (l.getD i.toNat 0))) l d j) ∧ V w0 W F) (fun (⟨j, d⟩ : Int × Int) => (E8 (GL (l.getD i.toNat 0)) l.length j).toNat) ((i, 0)) OM uJ ⟨⟨by omega, by omega, O⟩, HJ⟩ ?_
    rintro ⟨j, d⟩ w5 ⟨⟨hj, hd, hF⟩, HM⟩
    dsimp only [List.cons_append, List.nil_append]
    have hms := Lc (n := l.length) (i := j) hst
    have hmp := fun h0 h1 => Io (n := l.length) (i := j) hst h0 h1
    have hdb := aad (l.getD i.toNat 0) (Il (l.getD i.toNat 0)) d (l.getD j.toNat 0)
    refine aN (bQ O (Z (lV O O) (jG O (fun h3 => ?_) (fun h3 => ?_))))
    ·(try simp only [aA] at h3)
     refine bg (bT O (bg (bT O (bg (Z (jd aj O) (bg (Z (fZ O O) (iU O O (jB O (fun h4 => ?_) (fun h4 => ?_))))))))))
     ·(try simp only [aA] at h4)
      refine gG (aN (aY ?_))
      refine kT [(0, _), (7, _), (9, _), (10, _), (12, _), (46, _), (47, _), (48, _), (49, _)] (fun (_ : Unit) => [(11, .int .i64 (zN (l.getD i.toNat 0) (Il (l.getD i.toNat 0)) d (l.getD j.toNat 0)))]) (fun (_ : Unit) W => V w0 W F) (Sub.cons O (Sub.cons O (Sub.cons O Yf))) ?_ ?_
      ·rintro _ w6 HK
       dsimp only [List.cons_append, List.nil_append]
       refine bQ O (Z (dX O O) (jB O (fun h5 => ?_) (fun h5 => ?_)))
       ·(try simp only [aA] at h5)
        have hd0 : zN (l.getD i.toNat 0) (Il (l.getD i.toNat 0)) d (l.getD j.toNat 0) = 0 := h5
        refine bQ O (iK O (iK O (fB O (aT (aB (aB (aT (aB (aT (aB (aB (aT (aB ?_)))))))))))))
        refine ji (.inl O) Tryz.results43 O O O ?_
        exact ⟨by rw [MV hR (by omega) (hF.trans (Et (by omega) (by omega) (XQ hd0)))]; rfl, HK⟩
       ·(try simp only [aA] at h5)
        have hd0 : ¬ zN (l.getD i.toNat 0) (Il (l.getD i.toNat 0)) d (l.getD j.toNat 0) = 0 := h5
        refine cZ (aK (aX (aC (jR O O (Z (fJ O O (by omega)) (iK O (bW ?_)))))))
        refine dV (_, _) uJ OM (by (try dsimp only); exact ⟨⟨by omega, by omega, hF.trans (KX hst (by omega) (by omega) (aac hd0))⟩, HK⟩) ?_
        ·(try dsimp only); have := hmp (by omega) (by omega); omega
      ·skip
       refine aN ?_
       have hmq := hmp (by omega) (by omega)
       refine aC (jR O O (Z (dP aj bZ O O (by omega)) ?_))
       refine Z (fK (dA bG O) O (by first | exact gJ.ni (hr _ (HM)) (by omega) | exact gJ.yc (hr _ (HM)) (by omega) | exact gJ.yx (hr _ (HM)) (by omega))) ?_
       refine iJ (aY (bQ O (bT O (Z (dP aj bZ O O (by omega)) ?_))))
       refine Z (fK (dA bG O) O (by first | exact gJ.ni (hr _ (HM)) (by omega) | exact gJ.yc (hr _ (HM)) (by omega) | exact gJ.yx (hr _ (HM)) (by omega))) ?_
       refine Z (dX O O) (fG O (bD O (fun h6 => ?_) (fun h6 => ?_)))
       ·(try simp only [aA] at h6)
        have ha : l.getD j.toNat 0 = l.getD i.toNat 0 := h6
        have hdN := abF (d := d) ha hne
        refine aC (bT O (Z (fJ O O (by omega)) (iK O (bW (aK ?_)))))
        refine dw (()) ?_ ?_ ?_
        ·exact (Sub.jv O (by rw [hdN]) (Sub.nil _))
        ·exact (Sub.cons O (Sub.cons O (Sub.cons O Yf)))
        ·(try dsimp only)
         first | done | exact HM
       ·(try simp only [aA] at h6)
        have ha : ¬ l.getD j.toNat 0 = l.getD i.toNat 0 := h6
        refine bQ O (Z (dX O O) (fG O (bD O (fun h7 => ?_) (fun h7 => ?_))))
        ·(try simp only [aA] at h7)
         have hdN := abG (d := d) ha h7
         refine aC (bT O (Z (iV O O (by omega)) (iK O (bW (aK ?_)))))
         refine dw (()) ?_ ?_ ?_
         ·exact (Sub.jv O (by rw [hdN]) (Sub.nil _))
         ·exact (Sub.cons O (Sub.cons O (Sub.cons O Yf)))
         ·(try dsimp only)
          first | done | exact HM
        ·(try simp only [aA] at h7)
         have hdN := abH (d := d) ha h7
         refine cZ (aK ?_)
         refine dw (()) ?_ ?_ ?_
         ·exact (Sub.jv O (by rw [hdN]) (Sub.nil _))
         ·exact (Sub.cons O (Sub.cons O (Sub.cons O Yf)))
         ·(try dsimp only)
          first | done | exact HM
     ·(try simp only [aA] at h4)
      refine dO (aO (aO (bI (aX (iR (iK O (iK O (fB O (aT (aB (aB (aT (aB ?_)))))))))))))
      refine ji (.inl O) Tryz.results43 O O O ?_
      exact ⟨by rw [Fg hR (by omega) (hF.trans (Es (by omega)))]; rfl, HM⟩
    ·(try simp only [aA] at h3)
     refine bF (bF (bF (bF (iH O O (iJ (qo (dO (aO (aO (bI (aX (iR (iK O (iK O (fB O (aT (aB (aB (aT (aB ?_))))))))))))))))))))
     refine ji (.inl O) Tryz.results43 O O O ?_
     exact ⟨by rw [Fg hR (by omega) (hF.trans (Es (by omega)))]; rfl, HM⟩
   ·skip
    refine bQ O (Z (lV O O) (jB O (fun h8 => ?_) (fun h8 => ?_)))
    ·(try simp only [aA] at h8)
     have hk3 : 3 ≤ Bz (l.getD i.toNat 0) := h8
     have ae8 := adE.drew
     have LC := V.kp (ae8)
     refine yH [2] LC O (iQ 0 O LC O (jC 1 O LC (fun _ => iV O O (by omega)) ?_))
     refine jO 2 O LC (fun W hW => I8 jS O O (by exact ⟨by omega, by show _ < (3 : Int); omega⟩)) ?_
     refine jC 3 O LC (fun _ => BH O (by rw [Tryz.underlying5]; rfl) bG (JB (by have := abE (Bz (l.getD i.toNat 0) - 3).toNat; show -2147483648 ≤ sb Sr _ ∧ sb Sr _ < 2147483648; omega))) ?_
     refine jC 4 O LC (fun _ => dR O) (jC 5 O LC (fun _ => dR O) (qV ?_))
     refine dw (()) ?_ ?_ ?_
     ·exact (Sub.jv O (by first | exact congrArg (Value.int .i64) (JF hbr (by assumption)).2.symm | exact congrArg (Value.int .i64) (JG hbr (by assumption)).2.symm) (Sub.jv O (by first | exact congrArg (Value.int .i32) (JF hbr (by assumption)).1 | exact congrArg (Value.int .i32) (JG hbr (by assumption)).1) (Sub.nil _)))
     ·exact uJ
     ·(try dsimp only)
      first | done | exact ae8
    ·(try simp only [aA] at h8)
     have hk3 : Bz (l.getD i.toNat 0) < 3 := by have h9 := h8; omega
     refine cZ ?_
     refine dw (()) ?_ ?_ ?_
     ·exact (Sub.jv O (by first | exact congrArg (Value.int .i64) (JF hbr (by assumption)).2.symm | exact congrArg (Value.int .i64) (JG hbr (by assumption)).2.symm) (Sub.jv O (by first | exact congrArg (Value.int .i32) (JF hbr (by assumption)).1 | exact congrArg (Value.int .i32) (JG hbr (by assumption)).1) (Sub.nil _)))
     ·exact uJ
     ·(try dsimp only)
      first | done | exact adE
 ·(try simp only [aA] at h1)
  refine dO (aO (aO (bI (aX (iR (iK O (iK O (fB O ?_))))))))
  refine ji (.inl O) Tryz.results43 O O O ?_
  exact ⟨by rw [Sv (by rw [← hE, kN (by omega)]; omega)]; rfl, HL⟩
end
end Go.Proofs.YtpdeedplgmbopaaGreatDoor
end
section
namespace Go.Proofs.YtpdeedplgmbopaaGreatDoor
open Go.RowKit
open _root_.Go.Proofs.Tryz
def LD (w0 : World) (fv : Value) (g : List Int → Int → Bool → Int) (I : List Int → Int → Prop) : Prop := fv.oneCell' = true ∧ ∀ (F : HP) (W : World) (v : Value) (l : List Int) (x : Int) (b : Bool), V w0 W F → jF w0 F .i32 v l → l.length ≤ 4611686018427387904 → I l x →
  vK prog fv [v, .int .i64 x, .bool b] W fun u W' => (u = .int .i64 (g l x b) ∧ I l (g l x b)) ∧ V w0 W' F
def Wn (w0 : World) (fv : Value) (m : List Int → Int → Bool) : Prop := fv.oneCell' = true ∧ ∀ (F : HP) (W : World) (v : Value) (l : List Int) (x : Int), V w0 W F → jF w0 F .i32 v l →
  vK prog fv [v, .int .i64 x] W fun u W' => u = .bool (m l x) ∧ V w0 W' F
def inL (l : List Int) (x : Int) : Prop := 0 ≤ x ∧ x ≤ l.length
def ae9 (l : List Int) (x : Int) : Prop := 0 ≤ x ∧ x < l.length
section
variable {w0 : World}
theorem Oq (hT : Aq w0) : LD w0 (.func (.func 95) #[] #[]) Ai inL :=
  ⟨rfl, fun F W v l x b H hr hl hx => ⟨95, [], [], _, _, rfl, func95, rfl, rfl, (Xv H hr hT hx.1 hx.2).mono fun u W' h => ⟨⟨h.1, by have := Zx l b hx.1 hx.2; exact ⟨Int.le_trans hx.1 this.1, this.2⟩⟩, h.2⟩⟩⟩
theorem Ot (hT : Aq w0) : LD w0 (.func (.func 96) #[] #[]) CY inL :=
  ⟨rfl, fun F W v l x b H hr hl hx => ⟨96, [], [], _, _, rfl, func96, rfl, rfl, (Xw H hr hT hx.1 hx.2).mono fun u W' h => ⟨⟨h.1, by have := Zy l b hx.1 hx.2; exact ⟨this.1, Int.le_trans this.2 hx.2⟩⟩, h.2⟩⟩⟩
theorem step_end (hT : Aq w0) : LD w0 (.func (.func 97) #[] #[]) Jo ae9 :=
  ⟨rfl, fun F W v l x b H hr hl hx => ⟨97, [], [], _, _, rfl, func97, rfl, rfl, (Zw H hr hT hx.1 (Int.le_of_lt hx.2) hl).mono fun u W' h => ⟨⟨h.1, by have := abo l b hx.1 hx.2; exact ⟨Int.le_trans hx.1 this.1, this.2⟩⟩, h.2⟩⟩⟩
end
section
variable {w0 w : World} {F : HP} {v : Value} {l : List Int} {x : Int}
theorem UU (H : V w0 w F) (hr : jF w0 F .i32 v l) : iE prog 92 #[v, .int .i64 x] w fun u w' => u = .bool (decide (x < l.length)) ∧ V w0 w' F := by
  refine oV func92 ntmps92 ?_
  refine jQ O (bQ O (bT O (Z (iM (hr _ (H)) aj O) (Z (fZ O O) (fB O (dL results92 O ?_))))))
  exact ⟨O, H⟩
theorem XT (H : V w0 w F) (hr : jF w0 F .i32 v l) : iE prog 93 #[v, .int .i64 x] w fun u w' => u = .bool (decide (0 < x)) ∧ V w0 w' F := by
  refine oV func93 ntmps93 ?_
  refine jQ O (bQ O (Z (dY O O) (fB O (dL results93 O ?_))))
  exact ⟨O, H⟩
theorem UW (H : V w0 w F) (hr : jF w0 F .i32 v l) : iE prog 94 #[v, .int .i64 x] w fun u w' => u = .bool (decide (x < (l.length : Int) - 1)) ∧ V w0 w' F := by
  have Ym : l.length ≤ 9223372036854775807 := by have := (hr _ H).open; obtain ⟨a, c, e, h3, h4, _⟩ := this; omega
  refine oV func94 ntmps94 ?_
  refine jQ O (bQ O (bT O (Z (iM (hr _ (H)) aj O) (Z (iV O O (by omega)) (Z (fZ O O) (fB O (dL results94 O ?_)))))))
  exact ⟨O, H⟩
end
section
variable {w0 : World}
theorem LG : Wn w0 (.func (.func 92) #[] #[]) fun l x => decide (x < l.length) := ⟨rfl, fun F W v l x H hr => ⟨92, [], [], _, _, rfl, func92, rfl, rfl, UU H hr⟩⟩
theorem Ou : Wn w0 (.func (.func 93) #[] #[]) fun l x => decide (0 < x) := ⟨rfl, fun F W v l x H hr => ⟨93, [], [], _, _, rfl, func93, rfl, rfl, XT H hr⟩⟩
theorem LH : Wn w0 (.func (.func 94) #[] #[]) fun l x => decide (x < (l.length : Int) - 1) := ⟨rfl, fun F W v l x H hr => ⟨94, [], [], _, _, rfl, func94, rfl, rfl, UW H hr⟩⟩
end
section
variable {w0 w : World} {F : HP} {v fv : Value} {l : List Int} {x n : Int} {g : Int → Int} {I : Int → Prop}
theorem UY (H : V w0 w F) (hf : ∀ W y, V w0 W F → I y → vK prog fv [.int .i64 y] W fun u W' => (u = .int .i64 (g y) ∧ I (g y)) ∧ V w0 W' F) (hx : I x) (hn : n ≤ 9223372036854775807) : iE prog 90 #[.int .i64 x, .int .i64 n, fv] w fun u w' => u = .int .i64 (Bo g n.toNat x) ∧ V w0 w' F := by
 refine zT func90 ntmps90 ?_
 refine jQ O (aN (bQ O (bT O (iJ (aY ?_)))))
 refine gW [(2, _), (8, _)] (fun (⟨k, y⟩ : Nat × Int) => [(0, .int .i64 y), (9, .int .i64 (k : Int))]) (fun (⟨k, y⟩ : Nat × Int) W => ((k : Int) ≤ max n 0 ∧ I y ∧ Bo g n.toNat x = Bo g (n.toNat - k) y) ∧ V w0 W F) (fun (⟨k, y⟩ : Nat × Int) => n.toNat - k) ((0, x)) uJ uJ ⟨⟨by omega, hx, O⟩, H⟩ ?_
 rintro ⟨k, y⟩ w1 ⟨⟨hk, hy, he⟩, HL⟩
 dsimp only [List.cons_append, List.nil_append]
 refine iR (Z (fZ O O) (qQ (bD O (fun h1 => ?_) (fun h1 => ?_))))
 ·(try simp only [aA] at h1)
  refine gG (aN (aY (bQ O (bT O (kD (pW O O (hf _ _ HL hy)) ?_)))))
  rintro _ w2 ⟨⟨rfl, hgy⟩, H2⟩
  refine uZ O (bQ O (bT O (Z (dX O O) (jB O (fun h2 => ?_) (fun h2 => ?_)))))
  ·(try simp only [aA] at h2)
   have heq : g y = y := h2
   refine dO (aO ?_)
   refine EL (by decide) ?_
   refine aO (aO (bI (aX (bQ O (fB O (dL results90 O ?_))))))
   exact ⟨by rw [he]; first | rw [KZ heq] | (rw [show n.toNat - k = 0 from by omega]; rfl), H2⟩
  ·(try simp only [aA] at h2)
   have hne : ¬ g y = y := h2
   refine gG (aC (bT O (iK O (bW (aK (aX (aC (Z (fJ O O (by omega)) (bT O (bW ?_))))))))))
   refine dV ((k + 1, g y)) ?_ ?_ ?_ ?_
   ·exact uJ
   ·exact uJ
   ·(try dsimp only)
    first | done | exact ⟨⟨by omega, hgy, by rw [he, UA (by omega) hne]; rfl⟩, H2⟩
   ·(try dsimp only); omega
 ·(try simp only [aA] at h1)
  refine dO (aO (aO (bI (aX (bQ O (fB O (dL results90 O ?_)))))))
  exact ⟨by rw [he]; first | rw [KZ heq] | (rw [show n.toNat - k = 0 from by omega]; rfl), HL⟩
end
structure MP where
  ps : Nat
  pb : Nat
  pw : Nat
  pm : Nat
def Sz (p : MP) : Value := .func (.func 89) #[] #[.pointer (some ⟨p.pm, 0, none⟩), .pointer (some ⟨p.ps, 0, none⟩), .pointer (some ⟨p.pb, 0, none⟩), .pointer (some ⟨p.pw, 0, none⟩)]
def pF (p : MP) (sv : Value) (b t : Bool) (mv : Value) : HP := dW p.pm (.cells #[mv] 66 (0, 0)) • dW p.pw (.cells #[.bool t] 4 (0, 0)) • dW p.pb (.cells #[.bool b] 4 (0, 0)) • dW p.ps (.cells #[sv] 141 (0, 0))
section
variable {w0 w : World} {F : HP} {v sv mv : Value} {l : List Int} {x n : Int} {b t : Bool} {p : MP} {ps pl pb pw pm : Nat} {g : List Int → Int → Bool → Int} {I : List Int → Int → Prop} {m : List Int → Int → Bool}
theorem UZ (H : V w0 w (dW ps (.cells #[sv] 141 (0, 0)) • dW pl (.cells #[v] 22 (0, 0)) • dW pb (.cells #[.bool b] 4 (0, 0)) • F)) (hf : LD w0 sv g I) (hr : jF w0 F .i32 v l) (hl : l.length ≤ 4611686018427387904) (hx : I l x) :
    iE prog 91 #[.int .i64 x, .pointer (some ⟨ps, 0, none⟩), .pointer (some ⟨pl, 0, none⟩), .pointer (some ⟨pb, 0, none⟩)] w fun u w' => (u = .int .i64 (g l x b) ∧ I l (g l x b)) ∧ V w0 w' (dW ps (.cells #[sv] 141 (0, 0)) • dW pl (.cells #[v] 22 (0, 0)) • dW pb (.cells #[.bool b] 4 (0, 0)) • F) := by
  refine Ye func91 ntmps91 ?_
  dsimp only [y8, Nat.reduceAdd]
  refine jQ O (iR (fM underlying141 O (H).get.2 O (fM aj O (H.f2).get.2 O (bT O (fM bY O (H.f3).get.2 O (kD (pW O O (hf.2 _ _ _ l _ _ H (fun W HW => hr _ (HW.right.right.right)) hl hx)) ?_))))))
  rintro _ w1 ⟨⟨rfl, hgx⟩, H1⟩
  refine fB O (dL results91 O ?_)
  exact ⟨⟨O, hgx⟩, H1⟩
theorem BA (H : V w0 w (pF p sv b t mv • F)) (hf : LD w0 sv g I) (hm : Wn w0 mv m) (hI : ∀ y, m l y = true → inL l y → I l y) (hr : jF w0 F .i32 v l) (hl : l.length ≤ 4611686018427387904) (hx : inL l x) (hn : n ≤ 9223372036854775807) :
  vK prog (Sz p) [v, .int .i64 x, .int .i64 n] w fun u w' => u = Xx (if m l x = true then (Bo (fun y => g l y b) n.toNat x, t, true) else (0, false, false)) ∧ V w0 w' (pF p sv b t mv • F) := by
 obtain ⟨ps, pb, pw, pm⟩ := p
 refine ⟨_, [], _, _, _, O, func89, O, O, ?_⟩
 have H0 : V w0 w (dW pm (.cells #[mv] 66 (0, 0)) • dW pw (.cells #[.bool t] 4 (0, 0)) • dW pb (.cells #[.bool b] 4 (0, 0)) • dW ps (.cells #[sv] 141 (0, 0)) • F) := H.of_eq (by unfold pF; simp only [dG])
 have hback : ∀ {W : World}, V w0 W (dW pm (.cells #[mv] 66 (0, 0)) • dW pw (.cells #[.bool t] 4 (0, 0)) • dW pb (.cells #[.bool b] 4 (0, 0)) • dW ps (.cells #[sv] 141 (0, 0)) • F) → V w0 W (pF ⟨ps, pb, pw, pm⟩ sv b t mv • F) := fun h => h.of_eq (by unfold pF; simp only [dG])
 simp only [List.nil_append, List.cons_append]
 refine Ye func89 ntmps89 ?_
 dsimp only [y8, Nat.reduceAdd]
 refine iR (kD (jL (l := [_]) H0 O (by first | rfl | exact Em (by first | rfl | exact Rd.one (hr _ (H0.right.right.right.right))))) ?_)
 rintro _ w1 ⟨b1, rfl, H1⟩
 refine iK O (iK O (uZ O (iR (fM underlying66 O (H1.f2).get.2 O (fM aj O (H1).get.2 O (bT O (kD (pW O O (hm.2 _ _ _ l _ H1 (fun W HW => hr _ (HW.right.right.right.right.right)))) ?_)))))))
 rintro _ w2 ⟨rfl, H2⟩
 refine Z (lJ O) (jB O (fun h1 => ?_) (fun h1 => ?_))
 ·(try simp only [aA] at h1)
  have hno : ¬ m l x = true := by have h9 := h1; simpa using h9
  refine iR (iK O (iK O (fB O (aB ?_))))
  refine ji (.inl O) results89 O O O ?_
  exact ⟨by rw [if_neg hno]; rfl, hback H2.right.f4.f4.f4.f4⟩
 ·(try simp only [aA] at h1)
  have hyes : m l x = true := by have h9 := h1; simpa using h9
  refine gG (aN ?_)
  have EI := H2.drew
  have jf := V.kp (EI.f5.f5.f5.f5.f5)
  refine yH [4] jf O (iQ 0 O jf O (iQ 1 O jf O (jC 2 O jf (fun _ => zf O O) (jO 4 O jf (fun W hW => jV bY O ((Kp.h hW).f3).get.2 O) (mZ 3 O (xq O func90 (UY (g := fun y => g l y b) (I := I l) EI (fun W y HW hy => ⟨_, [], _, _, _, O, func91, O, O, (UZ (F := dW pm (.cells #[mv] 66 (0, 0)) • dW pw (.cells #[.bool t] 4 (0, 0)) • F) (HW.of_eq (by ac_rfl)) hf (fun W HW => hr W HW.right.right) hl hy).mono fun u W2 h => ⟨h.1, h.2.of_eq (by ac_rfl)⟩⟩) (hI x hyes hx) hn)) ?_)))))
  rintro _ w3 ⟨rfl, H3⟩
  have Az := V.kp (H3.f5.f5.f5.f5.f5)
  refine eF Az (fun W hW => (Kp.h hW).f5.f5.f5.f5.f5) ?_
  refine jC 5 O Az (fun _ => dR O) (jC 6 O Az (fun _ => dR O) (jC 7 O Az (fun _ => dR O) (qV (aX (nI ?_)))))
  refine ji (.inl O) results89 O O O ?_
  exact ⟨by rw [if_pos hyes]; rfl, hback H3.right.f4.f4.f4.f4⟩
end
end Go.Proofs.YtpdeedplgmbopaaGreatDoor
end
