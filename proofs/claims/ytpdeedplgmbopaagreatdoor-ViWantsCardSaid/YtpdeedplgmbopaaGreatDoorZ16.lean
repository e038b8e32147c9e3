import Derived.Test.YtpdeedplgmbopaaGreatDoorZ4
import Derived.Test.YtpdeedplgmbopaaGreatDoorZ12
import Derived.Test.YtpdeedplgmbopaaGreatDoorZ15
import Derived.Test.YtpdeedplgmbopaaGreatDoorZ14
import Derived.Test.YtpdeedplgmbopaaGreatDoorZ13
import Derived.Test.YtpdeedplgmbopaaGreatDoorZ10
import Derived.Test.YtpdeedplgmbopaaGreatDoorZ8
set_option linter.unusedSimpArgs false
set_option linter.unusedVariables false
/- Texts of mine, joined, their names in short: VD Atom2 EdCl VDo VB VGo. -/
section
namespace Go.Proofs.YtpdeedplgmbopaaGreatDoor
open Go.RowKit
open _root_.Go.Proofs.Tryz
abbrev VC (c m e : Nat) (name : ByteArray) (kv : Value) (n : Int) (g : Bool) (lv : Value) (p : Int) : HP := dM c (.cells #[.pointer (some ⟨m, 0, none⟩), .pointer (some ⟨e, 0, none⟩), .string name, kv, .int .i64 n, .bool g, lv, .int .i64 p] 130 (0, 0))
namespace dJ
variable (s : dJ)
def zq : Prop := s.c.mode = 2 ∧ 0 < s.c.L.length ∧ s.c.pt = s.c.L.length
instance : Decidable s.zq := by unfold zq; infer_instance
def Hy : Int := if s.zq then s.Jz ((s.c.L.length : Int) - 1) else 0
def Hz : dJ := if s.zq then s.EJ ((s.c.L.length : Int) - 1) else s
end dJ
section
variable {w0 w : World} {F : HP} {c m e : Nat} {s : dJ} {name : ByteArray} {kv lv : Value} {n p : Int} {g : Bool}
theorem Lh (H : V w0 w (VC c m e name kv n g lv p • gG e s • F)) : gQ prog 75 #[.pointer (some ⟨c, 0, none⟩)] w fun v w' => v = .int .i64 s.Hy ∧ V w0 w' (VC c m e name kv n g lv p • gG e s.Hz • F) := by
 have Ug : s.c.L.length ≤ 1024 := by
  obtain ⟨pb, pr, pw, pt, pm, ph, bl, pv, es, u0, u1, u2, u3, u4, u5, u6, u7, u8, u9, ua, h, _, _, H2⟩ := H.f2.Gz
  obtain ⟨a, c, xs, f, t, h1, h2, h3, h4, h5, h6, h7, _⟩ := H2.f2.buf
  exact h4
 refine iC func75 ntmps75 ?_
 refine jk O (bT O (dL O (bF 1 dD O sizeOf37 O (gq kH O (H).get.2 O (eG O func28 (Ae H.f2) ?_)))))
 rintro _ w1 ⟨u1, rfl, H1⟩
 refine jy (fM (l := [_, _, _]) H1 zeroValue46 O) ?_
 rintro _ w2 ⟨b2, rfl, H2⟩
 refine aK (bW 0 (l' := [_, _, _]) (us := [_, _, _]) H2 sizeOf46 O O O (aX (by first | rfl | exact Rd.one ((H2.f2).aT)) (aA (aA bD))) O O) ?_
 rintro _ w3 H3
 refine pJ (bT O (dL O (bF 1 dD O sizeOf37 O (gq kH O (H3.f4).get.2 O (eG O func23 (Le H3.f3) ?_)))))
 rintro _ w4 ⟨u4, ks4, us4, sv4, rfl, H4⟩
 refine Z (ER 3 iq O O (bV aN O) O O) (Z (dO O O) (jL O (fun h1 => ?_) (fun h1 => ?_)))
 ·(try simp only [aF] at h1)
  refine bC (bF 0 jo O dN O (bC (gq ay O (H4.f6).get.2 O (bC (Z (iF ((H4.f7).aT) ay O) (bC (Z (jc O O) (jw O O (jL O (fun h2 => ?_) (fun h2 => ?_))))))))))
  ·(try simp only [aF] at h2)
   refine bC (bF 1 jo O aj O (bC (gq aN O (H4.f6).get.2 O (bC (bF 0 jo O dN O (bC (gq ay O (H4.f6).get.2 O (bC (Z (iF ((H4.f7).aT) ay O) (bC (Z (dO O O) (jw O O (iV O (fun h3 => ?_) (fun h3 => ?_))))))))))))))
   ·(try simp only [aF] at h3)
    refine aO ?_
    have aaE := H4.drew
    have DI := V.kp (aaE.f8.f8.f8.f8.f8.f8.f8.f8)
    refine yj [3, 5] DI O (jE 0 O DI O (kJ 1 O DI O (gU 2 O DI 1 dD O sizeOf37 O (jQ 3 O DI (fun W hW => kC kH O ((Kp.h hW).f8).get.2 O) (gU 4 O DI 0 jo O dN O (jQ 5 O DI (fun W hW => kC ay O ((Kp.h hW).f6).get.2 O) (jC 6 O DI (fun _ => iF ((aaE.f7).aT) ay O) (jC 7 O DI (fun _ => lu O O (by omega)) (oC 8 O (yJ O func30 (EN aaE.f5)) ?_)))))))))
    rintro _ w5 ⟨rfl, H5⟩
    have BM := V.kp (H5.f8.f8.f8.f8.f8.f8.f8.f8)
    refine gV BM (by kernel_rfl) ?_
    refine jC 9 O BM (fun _ => dQ O) (qR (aW (mG (aG (dG results75 O ?_)))))
    have hp : s.zq := by unfold dJ.zq; omega
    exact ⟨by unfold dJ.Hy; rw [if_pos hp], by unfold dJ.Hz; rw [if_pos hp]; exact H5.f2.right.f2.right.f2.right.f2.right.f2.right.f2.right.f2⟩
   ·(try simp only [aF] at h3)
    refine fV (jd O (dG results75 O ?_))
    have hp : ¬ s.zq := by unfold dJ.zq; omega
    exact ⟨by unfold dJ.Hy; rw [if_neg hp], by unfold dJ.Hz; rw [if_neg hp]; exact H4.right.right.right.right.f2.right.f2.right.f2⟩
  ·(try simp only [aF] at h2)
   refine bH (bH (bH (bH (bH (bH (iJ O O (iK (pW (fV (jd O (dG results75 O ?_)))))))))))
   have hp : ¬ s.zq := by unfold dJ.zq; omega
   exact ⟨by unfold dJ.Hy; rw [if_neg hp], by unfold dJ.Hz; rw [if_neg hp]; exact H4.right.right.right.right.f2.right.f2.right.f2⟩
 ·(try simp only [aF] at h1)
  refine bH (bH (bH (bH (iJ O O (bQ O (bH (bH (bH (bH (bH (bH (iJ O O (iK (pW (fV (jd O (dG results75 O ?_)))))))))))))))))
  have hp : ¬ s.zq := by unfold dJ.zq; omega
  exact ⟨by unfold dJ.Hy; rw [if_neg hp], by unfold dJ.Hz; rw [if_neg hp]; exact H4.right.right.right.right.f2.right.f2.right.f2⟩
theorem Lj (H : V w0 w F) : gQ prog 125 #[.string name] w fun v w' => v = .tuple #[.bool (decide (wH name ∨ oW name)), .bool (decide (wH name))] ∧ V w0 w' F := by
  refine iC func125 ntmps125 ?_
  refine iy (fU O (vZ O (bT O (iK (aZ ?_)))))
  refine jW [(4, _)] (fun (_ : Unit) => [(5, .bool (decide (wH name)))]) (fun (_ : Unit) W => V w0 W F) kD ?_ ?_
  · rintro _ w1 HJ
    dsimp only [List.cons_append, List.nil_append]
    refine bG O (fun h1 => ?_) (fun h1 => ?_)
    · (try simp only [aF] at h1)
      refine iy (fU O (fF O (aS (aG (FX results125 O O ?_)))))
      have ht : wH name := by assumption
      exact ⟨by rw [decide_eq_true ht, decide_eq_true (Or.inl ht)], HJ⟩
    · (try simp only [aF] at h1)
      refine jW [] (fun (_ : Unit) => [(10, .bool (decide (oW name)))]) (fun (_ : Unit) W => V w0 W F) (Sub.nil _) ?_ ?_
      · rintro _ w2 HK
        dsimp only [List.cons_append, List.nil_append]
        refine bG O (fun h2 => ?_) (fun h2 => ?_)
        · (try simp only [aF] at h2)
          refine iy (fU O (fF O (aS (aG (FX results125 O O ?_)))))
          have ht : ¬ wH name := by assumption
          have hc : oW name := by assumption
          exact ⟨by rw [decide_eq_false ht, decide_eq_true (Or.inr hc)], HK⟩
        · (try simp only [aF] at h2)
          refine bU (aJ (aW (iy (fU O (fF O (FX results125 O O ?_))))))
          have ht : ¬ wH name := by assumption
          have hc : ¬ oW name := by assumption
          exact ⟨by rw [decide_eq_false ht, decide_eq_false (fun h => h.elim ht hc)], HK⟩
      · skip
        refine iy (Z (eF O O) (gB O (bG O (fun h3 => ?_) (fun h3 => ?_))))
        · (try simp only [aF] at h3)
          refine bU ?_
          refine cO (()) ?_ ?_ ?_
          · exact (Sub.iY O (by first | exact kZ (beq_iff_eq.2 (by assumption)) (by unfold oW; first | exact .inl (by assumption) | exact .inr (.inl (by assumption)) | exact .inr (.inr (.inl (by assumption))) | exact .inr (.inr (.inr (.inl (by assumption)))) | exact .inr (.inr (.inr (.inr (by assumption))))) | exact congrArg Value.bool (by rw [Bool.eq_iff_iff, decide_eq_true_iff, beq_iff_eq]; unfold oW; exact ⟨fun h => .inr (.inr (.inr (.inr h))), fun h => by rcases h with h | h | h | h | h <;> first | exact h | exact absurd h (by assumption)⟩)) (Sub.nil _))
          · exact (Sub.nil _)
          · (try dsimp only)
            first | done | exact HJ
        · (try simp only [aF] at h3)
          refine iy (Z (eF O O) (gB O (bG O (fun h4 => ?_) (fun h4 => ?_))))
          · (try simp only [aF] at h4)
            refine bU ?_
            refine cO (()) ?_ ?_ ?_
            · exact (Sub.iY O (by first | exact kZ (beq_iff_eq.2 (by assumption)) (by unfold oW; first | exact .inl (by assumption) | exact .inr (.inl (by assumption)) | exact .inr (.inr (.inl (by assumption))) | exact .inr (.inr (.inr (.inl (by assumption)))) | exact .inr (.inr (.inr (.inr (by assumption))))) | exact congrArg Value.bool (by rw [Bool.eq_iff_iff, decide_eq_true_iff, beq_iff_eq]; unfold oW; exact ⟨fun h => .inr (.inr (.inr (.inr h))), fun h => by rcases h with h | h | h | h | h <;> first | exact h | exact absurd h (by assumption)⟩)) (Sub.nil _))
            · exact (Sub.nil _)
            · (try dsimp only)
              first | done | exact HJ
          · (try simp only [aF] at h4)
            refine iy (Z (eF O O) (gB O (bG O (fun h5 => ?_) (fun h5 => ?_))))
            · (try simp only [aF] at h5)
              refine bU ?_
              refine cO (()) ?_ ?_ ?_
              · exact (Sub.iY O (by first | exact kZ (beq_iff_eq.2 (by assumption)) (by unfold oW; first | exact .inl (by assumption) | exact .inr (.inl (by assumption)) | exact .inr (.inr (.inl (by assumption))) | exact .inr (.inr (.inr (.inl (by assumption)))) | exact .inr (.inr (.inr (.inr (by assumption))))) | exact congrArg Value.bool (by rw [Bool.eq_iff_iff, decide_eq_true_iff, beq_iff_eq]; unfold oW; exact ⟨fun h => .inr (.inr (.inr (.inr h))), fun h => by rcases h with h | h | h | h | h <;> first | exact h | exact absurd h (by assumption)⟩)) (Sub.nil _))
              · exact (Sub.nil _)
              · (try dsimp only)
                first | done | exact HJ
            · (try simp only [aF] at h5)
              refine iy (Z (eF O O) (gB O (bG O (fun h6 => ?_) (fun h6 => ?_))))
              · (try simp only [aF] at h6)
                refine bU ?_
                refine cO (()) ?_ ?_ ?_
                · exact (Sub.iY O (by first | exact kZ (beq_iff_eq.2 (by assumption)) (by unfold oW; first | exact .inl (by assumption) | exact .inr (.inl (by assumption)) | exact .inr (.inr (.inl (by assumption))) | exact .inr (.inr (.inr (.inl (by assumption)))) | exact .inr (.inr (.inr (.inr (by assumption))))) | exact congrArg Value.bool (by rw [Bool.eq_iff_iff, decide_eq_true_iff, beq_iff_eq]; unfold oW; exact ⟨fun h => .inr (.inr (.inr (.inr h))), fun h => by rcases h with h | h | h | h | h <;> first | exact h | exact absurd h (by assumption)⟩)) (Sub.nil _))
                · exact (Sub.nil _)
                · (try dsimp only)
                  first | done | exact HJ
              · (try simp only [aF] at h6)
                refine aB (Z (eF O O) (fU O (bP ?_)))
                refine cO (()) ?_ ?_ ?_
                · exact (Sub.iY O (by first | exact kZ (beq_iff_eq.2 (by assumption)) (by unfold oW; first | exact .inl (by assumption) | exact .inr (.inl (by assumption)) | exact .inr (.inr (.inl (by assumption))) | exact .inr (.inr (.inr (.inl (by assumption)))) | exact .inr (.inr (.inr (.inr (by assumption))))) | exact congrArg Value.bool (by rw [Bool.eq_iff_iff, decide_eq_true_iff, beq_iff_eq]; unfold oW; exact ⟨fun h => .inr (.inr (.inr (.inr h))), fun h => by rcases h with h | h | h | h | h <;> first | exact h | exact absurd h (by assumption)⟩)) (Sub.nil _))
                · exact (Sub.nil _)
                · (try dsimp only)
                  first | done | exact HJ
  · skip
    refine iy (Z (eF O O) (gB O (bG O (fun h7 => ?_) (fun h7 => ?_))))
    · (try simp only [aF] at h7)
      refine bU ?_
      refine cO (()) ?_ ?_ ?_
      · exact (Sub.iY O (by first | exact kZ (beq_iff_eq.2 (by assumption)) (by unfold wH; first | exact .inl (by assumption) | exact .inr (.inl (by assumption)) | exact .inr (.inr (.inl (by assumption))) | exact .inr (.inr (.inr (by assumption)))) | exact congrArg Value.bool (by rw [Bool.eq_iff_iff, decide_eq_true_iff, beq_iff_eq]; unfold wH; exact ⟨fun h => .inr (.inr (.inr h)), fun h => by rcases h with h | h | h | h <;> first | exact h | exact absurd h (by assumption)⟩)) (Sub.nil _))
      · exact kD
      · (try dsimp only)
        first | done | exact H
    · (try simp only [aF] at h7)
      refine iy (Z (eF O O) (gB O (bG O (fun h8 => ?_) (fun h8 => ?_))))
      · (try simp only [aF] at h8)
        refine bU ?_
        refine cO (()) ?_ ?_ ?_
        · exact (Sub.iY O (by first | exact kZ (beq_iff_eq.2 (by assumption)) (by unfold wH; first | exact .inl (by assumption) | exact .inr (.inl (by assumption)) | exact .inr (.inr (.inl (by assumption))) | exact .inr (.inr (.inr (by assumption)))) | exact congrArg Value.bool (by rw [Bool.eq_iff_iff, decide_eq_true_iff, beq_iff_eq]; unfold wH; exact ⟨fun h => .inr (.inr (.inr h)), fun h => by rcases h with h | h | h | h <;> first | exact h | exact absurd h (by assumption)⟩)) (Sub.nil _))
        · exact kD
        · (try dsimp only)
          first | done | exact H
      · (try simp only [aF] at h8)
        refine iy (Z (eF O O) (gB O (bG O (fun h9 => ?_) (fun h9 => ?_))))
        · (try simp only [aF] at h9)
          refine bU ?_
          refine cO (()) ?_ ?_ ?_
          · exact (Sub.iY O (by first | exact kZ (beq_iff_eq.2 (by assumption)) (by unfold wH; first | exact .inl (by assumption) | exact .inr (.inl (by assumption)) | exact .inr (.inr (.inl (by assumption))) | exact .inr (.inr (.inr (by assumption)))) | exact congrArg Value.bool (by rw [Bool.eq_iff_iff, decide_eq_true_iff, beq_iff_eq]; unfold wH; exact ⟨fun h => .inr (.inr (.inr h)), fun h => by rcases h with h | h | h | h <;> first | exact h | exact absurd h (by assumption)⟩)) (Sub.nil _))
          · exact kD
          · (try dsimp only)
            first | done | exact H
        · (try simp only [aF] at h9)
          refine aB (Z (eF O O) (fU O (bP ?_)))
          refine cO (()) ?_ ?_ ?_
          · exact (Sub.iY O (by first | exact kZ (beq_iff_eq.2 (by assumption)) (by unfold wH; first | exact .inl (by assumption) | exact .inr (.inl (by assumption)) | exact .inr (.inr (.inl (by assumption))) | exact .inr (.inr (.inr (by assumption)))) | exact congrArg Value.bool (by rw [Bool.eq_iff_iff, decide_eq_true_iff, beq_iff_eq]; unfold wH; exact ⟨fun h => .inr (.inr (.inr h)), fun h => by rcases h with h | h | h | h <;> first | exact h | exact absurd h (by assumption)⟩)) (Sub.nil _))
          · exact kD
          · (try dsimp only)
            first | done | exact H
end
end Go.Proofs.YtpdeedplgmbopaaGreatDoor
end
section
namespace Go.Proofs.YtpdeedplgmbopaaGreatDoor
open Go.RowKit Go.Lib
section
variable {P : Program} {L : List (Nat × Value)} {w0 w : World} {F : HP} {ty : TypeId} {b : Nat} {v d : Int} {t : TypeId}
theorem NW {u : Value} (hc : w.cell? ⟨b, 0, none⟩ = some u) (hz : w.frozen? ⟨b, 0, none⟩ = false) : (Extern.Atomic.storeT #[.pointer (some ⟨b, 0, none⟩), .int .i64 d]).run P w = .ok Extern.Atomic.none_ (w.setCell ⟨b, 0, none⟩ (.int .i64 d)) := by
  change Sem.run P (do store (← asAddr (.pointer (some ⟨b, 0, none⟩))) (.int .i64 d) .atomic; pure Extern.Atomic.none_) w = _
  simp [asAddr, run_store _ _ _ _ _ (rfl : (Value.int .i64 d).oneCell' = true), hc, hz, Result.andThen]
theorem TD {f : FuncId} {args : List Operand} {ts : Array TypeId} {fn : Func} (H : V w0 w (dM b (.cells #[.int .i64 v] t (0, 0)) • F)) (ha : DV L args = some [.pointer (some ⟨b, 0, none⟩), .int .i64 d])
    (hf : P.funcs[f]? = some fn) (hname : (fn.name == "runtime.NumGoroutine") = false) (hb : fn.body.isNone = true) (hn : Extern.findNext fn = none) (he : Extern.find fn = some Extern.Atomic.storeT) :
    uw P L (.call ⟨.value (.func f), args.toArray, ts⟩) ty w fun u w' => V w0 w' (dM b (.cells #[.int .i64 d] t (0, 0)) • F) :=
  VO ha hf hname hb hn he (NW (ji H.get.2 rfl) (zD H.get.2)) (H.setCell (i := 0) _)
theorem HY (H : V w0 w (dM b (.cells #[.int .i64 v] t (0, 0)) • F)) : gQ Tryz.prog 123 #[.pointer (some ⟨b, 0, none⟩), .int .i64 d] w fun u w' => V w0 w' (dM b (.cells #[.int .i64 d] t (0, 0)) • F) := by
 refine nH Tryz.func123 Tryz.ntmps123 ?_
 refine aB (nG O O (bF 0 Tryz.underlying161 O Tryz.sizeOf2 O (bQ O (jy (TD H O Tryz.func159 O O (by kernel_rfl) (by kernel_rfl)) ?_))))
 rintro _ w1 H1
 refine bP (lX (.inr O) Tryz.results123 ?_)
 exact H1
end
end Go.Proofs.YtpdeedplgmbopaaGreatDoor
end
section
namespace Go.Proofs.YtpdeedplgmbopaaGreatDoor
open Go.RowKit
open _root_.Go.Proofs.Tryz
section
variable {w0 w : World} {F : HP} {e : Nat} {s : dJ}
theorem IX (H : V w0 w (gG e s • F)) (hi : s.inn = false) : gQ prog 70 #[.pointer (some ⟨e, 0, none⟩)] w fun v w' => ∃ q, v = .pointer (some ⟨q, 0, none⟩) ∧ V w0 w' (gG e s • F) := by
 refine iC func70 ntmps70 ?_
 refine jk O (aO (bT O (eG O func65 (pq H) ?_)))
 rintro _ _ ⟨rfl, rfl⟩
 refine iK (pW (fV (aO ?_)))
 obtain ⟨xO, xP, xQ, xR, xU, xW, xX, xY, uK, sG, sH, sJ, sK, sN, sO, sQ, sS, sU, sV, sW, iw, dI, lg, iL⟩ := (H).Gz
 have hwo := wL (iL.f11)
 simp only [List.all_cons, List.all_nil, Bool.and_true, Bool.and_eq_true] at hwo
 obtain ⟨o0, o1, o2, o3, o4, o5, o6, o7, o8, o9, oa⟩ := hwo
 have hon := (iL.f10).zN
 have hpl : s.put.length ≤ 16384 := by have h9 := iw.2.2.2.2.1; unfold iH at h9; omega
 refine aB (nG O O (Z (fD ah O sizeOf82 O O (iL).get.2) (jy (fM (l := [_, _, _, _, _, _, _, _, _, _, _, _, _, _, _, _, _, _, _, _, _, _, _, _, _, _, _, _, _, _, _, _, _, _]) iL zeroValue82 O) ?_)))
 rintro _ w3 ⟨b3, rfl, H3⟩
 refine aK (bW 0 (l' := [_, _, _, _, _, _, _, _, _, _, _, _, _, _, _, _, _, _, _, _, _, _, _, _, _, _, _, _, _, _, _, _, _, _]) (us := [_, _, _, _, _, _, _, _, _, _, _, _, _, _, _, _, _, _, _, _, _, _, _, _, _, _, _, _, _, _, _, _, _, _]) H3 sizeOf82 O O O (aA (aA (aA (aA (aA (aA (aA (aA (aA (aA (aA (aA (aA (aA (aA (aA (aA (aA (aA (aA (aA (aA (aA (aA (aA (aA (aA (aA (aA (aA (aA (aA (aA (aX (by first | rfl | exact Rd.one ((H3.f10).aT)) bD)))))))))))))))))))))))))))))))))) O O) ?_
 rintro _ w4 H4
 refine qQ O (dL O (bF 0 ah O aU O (Z (nY 0 (xs := [_, _, _, _, _, _, _, _, _, _, _]) aH O aU O O (H4.f2).get.2 O) (eG O func80 (Nq H4.f7.f7.f7.f7.f7) ?_))))
 rintro _ w5 ⟨qb5, qr5, qw5, qt5, qm5, rfl, H5⟩
 refine bF 0 ah O aU O (aK (bW 0 (l' := [_, _, _, _, _, _, _, _, _, _, _, _, _, _, _, _, _, _, _, _, _, _, _, _, _, _, _, _, _, _, _, _, _, _]) (us := [_, _, _, _, _, _, _, _, _, _, _]) H5.f11 aU O O O (aA (aA (aA (aA (aA (aA (aA (aA (aA (aA (aA bD))))))))))) O O) ?_)
 rintro _ w6 H6
 have ZY := H6.f5.right
 have Hd8 := ZY.f2.right
 have Hd9 := Hd8.f2.right
 have X9 := Hd9.f2.right
 have Pm := X9.f2.right
 refine pJ (bT O (dL O (bF 16 ah O aQ O (gq bM O (Pm.f7).get.2 O (iV O (fun h => by exfalso; (try simp only [aF] at h); rw [hi] at h; simp at h) (fun h1 => ?_))))))
 (try simp only [aF] at h1)
 refine fV (bT O (dL O (bF 11 ah O sizeOf78 O (gq jO O (Pm.f7).get.2 O (eG O func109 (rF Pm.f8) ?_)))))
 rintro _ w12 ⟨q12, rfl, uG⟩
 refine bF 11 ah O sizeOf78 O (aK (eP 11 uG.f3 sizeOf78) ?_)
 rintro _ Pn wZ
 have Yh := wZ.f2.right
 refine qQ O (dL O (bF 33 ah O bJ O (gq aV O (Yh.f8).get.2 O (eG O func122 (zo Yh (fun W HW => (HW.f10).aT) hon (by omega)) ?_))))
 rintro u15 SA yQ
 refine bF 33 ah O bJ O (aK (fE 33 (l' := [_, _, _, _, _, _, _, _, _, _, _, _, _, _, _, _, _, _, _, _, _, _, _, _, _, _, _, _, _, _, _, _, _, _]) yQ.f2 bJ O O (by first | rfl | exact Rd.one ((yQ).aT)) O O) ?_)
 rintro _ w16 yL
 have Po := yL.f2.right
 refine Xj (Z (dW (zl := [.int .i64 0]) (pl := [(0, 0), (0, 0), (0, 1)]) [_] underlying161 zeroValue161 O (fun w => by kernel_rfl) O (.zero (zs := []) O (.zero (zs := []) O (.zero (zs := [.int .i64 0]) O .nil))) O) (jy (iO (l := [_]) Po O O) ?_))
 rintro _ XG ⟨b18, rfl, CW⟩
 refine bF 12 ah O sizeOf79 O (aK (eP 12 CW.f2 sizeOf79) ?_)
 rintro _ w19 Ec
 refine pJ ?_
 have Ll := Ec.drew
 have y7 := V.kp (Ll.f13.f13.f13.f13.f13.f13.f13.f13.f13.f13.f13.f13.f13)
 refine yj [1, 5] y7 O (gU 0 O y7 12 ah O sizeOf79 O (jQ 1 O y7 (fun W hW => kC underlying79 O ((Kp.h hW)).get.2 O) (jE 2 O y7 O (kJ 3 O y7 O (gU 4 O y7 12 ah O sizeOf79 O (jQ 5 O y7 (fun W hW => kC underlying79 O ((Kp.h hW).f9).get.2 O) (oC 6 O (yJ O func68 (ng Ll.f10)) ?_)))))))
 rintro _ _ ⟨rfl, rfl⟩
 have Dl := V.kp (Ll.f13.f13.f13.f13.f13.f13.f13.f13.f13.f13.f13.f13.f13)
 refine dX Dl (fun W hW => (Kp.h hW).f13.f13.f13.f13.f13.f13.f13.f13.f13.f13.f13.f13.f13) ?_
 refine oC 7 O (yJ O func123 (HY Ll.f2)) ?_
 rintro _ w21 IK
 have Ws := V.kp (IK.f13.f13.f13.f13.f13.f13.f13.f13.f13.f13.f13.f13.f13)
 refine gV Ws (by kernel_rfl) ?_
 refine qR (aW (jd O (dG results70 O ?_)))
 have VL := IK.f13.f13.f13.f13.f7.f12.f12.f12.f12.f12.f13
 have VN := V.iI (s := s) iw dI VL
 exact ⟨_, O, VN.f2.right.f2.right⟩
end
def aaF (w0 : World) (name : ByteArray) (keys : List Int) (n : Int) (g : Bool) (s : dJ) (M : VM) (Q : Int → dJ → VM → Prop) : Prop := ∀ (F : HP) (W : World) (c m e : Nat) (kv lv : Value), V w0 W (VC c m e name kv n g lv s.c.pt • kT 21 .i32 lv s.c.L • oZ m M • gG e s • F) → jM w0 F .i32 kv keys →
  gQ prog 124 #[.pointer (some ⟨c, 0, none⟩)] W fun v W' => ∃ x t M', Q x t M' ∧ v = .int .i64 x ∧ V w0 W' (VC c m e name kv n g lv s.c.pt • kT 21 .i32 lv s.c.L • oZ m M' • gG e t • F)
def VM.did (M : VM) (name : ByteArray) (keys : List Int) (n x : Int) : VM := if (wH name ∨ oW name) ∧ x = 0 then { M with name := name, keys := keys, n := n, typed := [] } else M
def dJ.Wu (t : dJ) (x : Int) : Int := if x = 0 then t.Hz.zS t.Hy else t.zS x
def dJ.doS (t : dJ) (x : Int) : dJ := if x = 0 then t.Hz.BP t.Hy else t.BP x
def VM.doM (M M' : VM) (name : ByteArray) (keys : List Int) (n x r : Int) : VM := if r = 0 then M'.did name keys n x else M
section
variable {w0 w : World} {F : HP} {c m e : Nat} {s : dJ} {name : ByteArray} {kv lv : Value} {keys : List Int} {n p x : Int} {g : Bool} {M M' : VM} {Q : Int → dJ → VM → Prop}
theorem Lm (h : wH name ∨ oW name) (hx : x = 0) : M.did name keys n x = { M with name := name, keys := keys, n := n, typed := [] } := if_pos ⟨h, hx⟩
theorem Cj (h : ¬ ((wH name ∨ oW name) ∧ x = 0)) : M.did name keys n x = M := if_neg h
theorem TF (H : V w0 w (VC c m e name kv n g lv s.c.pt • kT 21 .i32 lv s.c.L • oZ m M • gG e s • F)) (hk : jM w0 F .i32 kv keys) (h1 : aaF w0 name keys n g s M Q) (hkl : keys.length * 4 ≤ 140737488355328) (hw : nJ name keys = 0) (hn : 1 ≤ n ∧ n ≤ 1000000) :
  gQ prog 74 #[.pointer (some ⟨c, 0, none⟩)] w fun v w' => ∃ x t M', Q x t M' ∧ v = .int .i64 x ∧ V w0 w' (VC c m e name kv n g lv s.c.pt • kT 21 .i32 lv s.c.L • oZ m (M'.did name keys n x) • gG e t • F) := by
 refine iC func74 ntmps74 ?_
 refine jk O (bT O (eG O func124 (h1 _ _ _ _ _ _ _ H hk) ?_))
 rintro _ w1 ⟨x, t, M2, hQ, rfl, H1⟩
 refine vZ O (bT O (dL O (bF 2 dD O lF O (gq iR O (H1).get.2 O (eG O func125 (Lj H1) ?_)))))
 rintro _ w2 ⟨rfl, H2⟩
 refine bQ O (uD O O (uD O O (fU O (gB O (bT O (jL O (fun h1 => ?_) (fun h1 => ?_)))))))
 ·(try simp only [aF] at h1)
  refine bC (bQ O (bC (Z (dO O O) (jw O O (iV O (fun h2 => ?_) (fun h2 => ?_))))))
  ·(try simp only [aF] at h2)
   obtain ⟨Nv, Nw, Ny, wI, wU⟩ := (H2.f3).vm
   have hcg : wH name ∨ oW name := by assumption
   have hx0 : x = 0 := by assumption
   have acm := wU.drew
   have um := V.kp (acm.f7.f7.f7.f7.f7.f7.f7)
   refine yj [3, 7, 11, 16] um O (jE 0 O um O (kJ 1 O um O (gU 2 O um 0 dD O sizeOf41 O (jQ 3 O um (fun W hW => kC underlying41 O ((Kp.h hW).f5).get.2 O) (jE 4 O um O (kJ 5 O um O (gU 6 O um 2 dD O lF O (jQ 7 O um (fun W hW => kC iR O ((Kp.h hW).f5).get.2 O) (jE 8 O um O (kJ 9 O um O (gU 10 O um 3 dD O dN O (jQ 11 O um (fun W hW => kC ay O ((Kp.h hW).f5).get.2 O) (jE 13 O um O (kJ 14 O um O (gU 15 O um 4 dD O aj O (jQ 16 O um (fun W hW => kC aN O ((Kp.h hW).f5).get.2 O) (oC 12 O (yJ O func71 (pK acm (fun W HW => hk _ (HW.right.right.right.right.right.right.right)) (by omega))) ?_)))))))))))))))))
   rintro u4 w4 H4
   have xG := V.kp (H4.f8.f8.f8.f8.f8.f8.f8.f8)
   refine dX xG (fun W hW => (Kp.h hW).right.f7.f7.f7.f7.f7.f7.f7) ?_
   refine jC 17 O xG (fun _ => dW (zl := [.string .empty, .slice none 0 0, .int .i64 0, .slice none 0 0]) (pl := [(0, 1), (1, 1), (2, 1), (3, 1)]) [_, _, _, _] underlying117 zeroValue117 O (fun w => by kernel_rfl) O (.on (.one (Rd.one ((H4).aT)) (.on (.zero (zs := [.slice none 0 0]) O .nil)))) O) ?_
   refine kJ 18 O xG O (gU 19 O xG 3 fH O sizeOf117 O ?_)
   refine fQ 20 O (by kernel_rfl) (bW 3 (l' := [_, _, _, _, _, _, _, _]) (us := [_, _, _, _]) H4.f2 sizeOf117 O O O (aA (aX (by first | rfl | exact Rd.one ((H4).aT)) (aA (aA bD)))) O O) ?_
   rintro _ w5 H5
   have BM := V.kp (H5.f8.f8.f8.f8.f8.f8.f8.f8)
   refine gV BM (by kernel_rfl) ?_
   have XU := H5.f2
   have XV := XU.oL
   have Ho8 := XV.f3.f3
   have Yj := V.aaq (M := { M2 with name := name, keys := keys, n := n, typed := [] }) ⟨hkl, by show ([] : List Int).length ≤ 1024; decide, .inr ⟨hcg, hw, hn.1, hn.2⟩⟩ rfl Ho8
   refine qR (aW (bT O (fF O (dG results74 O ?_))))
   exact ⟨_, _, M2, hQ, O, by first | (rw [Lm hcg hx0]; exact Yj.f2.right.f2.right.f4.f2.f4.f4) | (rw [Cj (fun hc => absurd hc.2 (by assumption))]; exact Yj.f2.right.f2.right.f4.f2.f4.f4) | (rw [Cj (fun hc => absurd (decide_eq_true hc.1) (by simp only [*]; decide))]; exact Yj.f2.right.f2.right.f4.f2.f4.f4)⟩
  ·(try simp only [aF] at h2)
   refine fV (bT O (fF O (dG results74 O ?_)))
   exact ⟨_, _, M2, hQ, O, by first | (rw [Lm hcg hx0]; exact H2.f4.f4.f4.f4) | (rw [Cj (fun hc => absurd hc.2 (by assumption))]; exact H2.f4.f4.f4.f4) | (rw [Cj (fun hc => absurd (decide_eq_true hc.1) (by simp only [*]; decide))]; exact H2.f4.f4.f4.f4)⟩
 ·(try simp only [aF] at h1)
  refine bH (bH (iJ O O (iK (pW (fV (bT O (fF O (dG results74 O ?_))))))))
  exact ⟨_, _, M2, hQ, O, by first | (rw [Lm hcg hx0]; exact H2.f4.f4.f4.f4) | (rw [Cj (fun hc => absurd hc.2 (by assumption))]; exact H2.f4.f4.f4.f4) | (rw [Cj (fun hc => absurd (decide_eq_true hc.1) (by simp only [*]; decide))]; exact H2.f4.f4.f4.f4)⟩
theorem JO (s : dJ) (h : lT s) : 1 ≤ max s.count 1 ∧ max s.count 1 ≤ 1000000 := by
  have h := h.2.2.1
  unfold dJ.count
  dsimp only
  by_cases h1 : s.given = true <;> by_cases h2 : s.arg < 0 <;> by_cases h3 : s.minus = true <;> simp only [h1, h2, h3, if_true, if_false, Bool.false_eq_true] <;> omega
theorem Wv (H : V w0 w (gG e s • F)) : lT s := by
  obtain ⟨pb, pr, pw, pt, pm, ph, bl, pv, es, u0, u1, u2, u3, u4, u5, u6, u7, u8, u9, ua, h, _⟩ := H.Gz
  exact h
theorem Yk (H : V w0 w (oZ m M • gG e s • F)) (hi : s.inn = false) (hk : jM w0 F .i32 kv keys) (hkl : keys.length * 4 ≤ 140737488355328) (hw : nJ name keys = 0) (hone : aaF w0 name keys (max s.jZ.count 1) s.jZ.given s.jZ M Q) :
  gQ prog 24 #[.pointer (some ⟨m, 0, none⟩), .pointer (some ⟨e, 0, none⟩), .string name, kv] w fun v w' => ∃ x t M', Q x t M' ∧ v = .int .i64 (t.Wu x) ∧ V w0 w' (oZ m (M.doM M' name keys (max s.jZ.count 1) x (t.Wu x)) • gG e (t.doS x) • F) := by
 refine aa9 func24 ntmps24 ?_
 refine jk O (aO (aZ (bT O (eG O func69 (Ad H) ?_))))
 rintro _ _ ⟨rfl, rfl⟩
 refine bQ O (bC (bQ O (bC (eG O func70 (IX H.f2 hi) ?_))))
 rintro _ w2 ⟨cl2, rfl, H2⟩
 refine bC (Z (iT kH O O) (iJ O O (gB O (Kr O (fun h1 => ?_)))))
 (try simp only [aF] at h1)
 refine bT O (bQ O (eG O func16 (yX H2 (fun W HW => hk _ (HW.right.right))) ?_))
 rintro _ w3 ⟨rfl, H3⟩
 refine Z (dO O O) (gB O (bG O (fun h => by exfalso; (try simp only [aF] at h); rw [hw] at h; exact absurd h (by decide)) (fun h2 => ?_)))
 (try simp only [aF] at h2)
 refine bT O (bQ O (eG O func16 (yX H3 (fun W HW => hk _ (HW.right.right))) ?_))
 rintro _ w4 ⟨rfl, H4⟩
 refine Z (iZ O O) (gB O (bG O (fun h => by exfalso; (try simp only [aF] at h); exact h hw) (fun h3 => ?_)))
 (try simp only [aF] at h3)
 refine bU (aJ (aW (aO (bT O (eG O func29 (Dy H4) ?_)))))
 rintro _ w5 ⟨rfl, H5⟩
 refine gB O (bT O (Z (iZ O O) (iV O (fun h => by exfalso; (try simp only [aF] at h); exact h (by unfold dJ.BO; rw [if_neg (by simp [hi])])) (fun h4 => ?_))))
 (try simp only [aF] at h4)
 refine fV (bT O (eG O func38 (KY H5.f2) ?_))
 rintro _ w6 ⟨c6, rfl, H6⟩
 have hco := JO s.jZ (Wv H6.f3)
 refine gB O (bT O (jF O O (bQ O (eG O func71 (pK H6 (fun W HW => hk _ (HW.right.right.right)) (by omega)) ?_))))
 rintro u7 w7 H7
 refine bQ O (eG O func72 (KZ H7.f4) ?_)
 rintro _ w8 ⟨rfl, H8⟩
 refine Z (Um O O) (bQ O (eG O func73 (La H8) ?_))
 rintro _ w9 ⟨rfl, H9⟩
 refine Z (dW (zl := [.pointer none, .pointer none, .string .empty, .slice none 0 0, .int .i64 0, .bool false, .slice none 0 0, .int .i64 0]) (pl := [(0, 1), (1, 1), (2, 1), (3, 1), (4, 1), (5, 1), (6, 1), (7, 1)]) [_, _, _, _, _, _, _, _] dD zeroValue130 O (fun w => by kernel_rfl) O (.on (.on (.on (.one (Rd.one ((H9.f2).aT)) (.on (.on (.zero (zs := [.slice none 0 0]) O (.zero (zs := [.int .i64 0]) O .nil)))))))) O) ?_
 refine jy (iO (l := [_, _, _, _, _, _, _, _]) H9 O O) ?_
 rintro _ w10 ⟨b10, rfl, ql⟩
 refine gB O (bT O (eG O func28 (Ae ql.f2) ?_))
 rintro _ EI ⟨u11, rfl, rE⟩
 refine jy (fM (l := [_, _, _]) rE zeroValue46 O) ?_
 rintro _ w12 ⟨b12, rfl, uG⟩
 refine aK (bW 0 (l' := [_, _, _]) (us := [_, _, _]) uG sizeOf46 O O O (aX (by first | rfl | exact Rd.one ((uG.f2).aT)) (aA (aA bD))) O O) ?_
 rintro _ Pn wZ
 refine pJ ?_
 have Qk := wZ.drew
 have vG := V.kp (Qk.f4.right.f6.f6.f6.f6.f6.f6)
 refine yj [3, 5] vG O (jE 0 O vG O (jE 1 O vG O (gU 2 O vG 0 jo O dN O (jQ 3 O vG (fun W hW => kC ay O ((Kp.h hW)).get.2 O) (gU 4 O vG 1 jo O aj O (jQ 5 O vG (fun W hW => kC aN O ((Kp.h hW)).get.2 O) (kJ 6 O vG O (gU 7 O vG 6 dD O dN O ?_))))))))
 refine fQ 8 O (by kernel_rfl) (fE 6 (l' := [_, _, _, _, _, _, _, _]) Qk.f4 dN O O (by first | rfl | exact Rd.one ((Qk.f2).aT)) O O) ?_
 rintro _ Si Aw
 have Dh := V.kp (Aw.f7.f7.f7.f7.f7.f7.f7)
 refine dX Dh (fun W hW => (Kp.h hW).right.f6.f6.f6.f6.f6.f6) ?_
 refine kJ 9 O Dh O (gU 10 O Dh 7 dD O aj O ?_)
 refine fQ 11 O (by kernel_rfl) (fE 7 (l' := [_, _, _, _, _, _, _, _]) Aw aj O O (by first | rfl | assumption) O O) ?_
 rintro _ SA yQ
 have uQ := V.kp (yQ.f7.f7.f7.f7.f7.f7.f7)
 refine gV uQ (by kernel_rfl) ?_
 refine qR (aW (bT O (eG O func74 (TF yQ.f4.f7.f5.f4 (fun W HW => (HW.f2).aT) hone hkl hw hco) ?_)))
 rintro _ w16 ⟨x, t, M2, hQ, rfl, yL⟩
 refine vZ O (bT O (Z (dO O O) (iV O (fun h5 => ?_) (fun h5 => ?_))))
 ·(try simp only [aF] at h5)
  have hx : x = 0 := h5
  refine aB (bQ O (eG O func75 (Lh yL.f4.f2) ?_))
  rintro _ Zc ⟨rfl, Iu⟩
  refine vZ O (bT O (bQ O (eG O func31 (Ci Iu.f2) ?_)))
  rintro _ XG ⟨rfl, CW⟩
  refine gB O (bT O (Z (iZ O O) (iV O (fun h6 => ?_) (fun h6 => ?_))))
  ·(try simp only [aF] at h6)
   obtain ⟨Nv, Nw, Ny, wI, wU⟩ := (CW.f4).vm
   obtain ⟨acn, aco, acp, Ql, DJ⟩ := (wU.f10).vm
   refine aB (jF O O (dL O (Z (fD fH O sizeOf119 O O (DJ).get.2) (dL O (aK (bW 0 (l' := [_, _, _, _, _, _, _, _]) (us := [_, _, _, _, _, _, _, _]) DJ.f5 sizeOf119 O O O (aA (aA (aA (aA (aX (by first | rfl | exact Rd.one ((DJ.f3).jG)) (aA (aX (by first | rfl | exact Rd.one ((DJ.f4).jG)) (aA bD)))))))) O O) ?_)))))
   rintro _ w21 IK
   have ad1 := IK.f5.f5.f5.f4
   have Yl := V.Bz (M := M) Ql ad1
   refine qQ O (fF O (dG results24 O ?_))
   refine ⟨x, t, M2, hQ, by unfold dJ.Wu; first | rw [if_pos hx] | rw [if_neg hx], ?_⟩
   unfold VM.doM dJ.Wu dJ.doS
   first | (rw [if_pos hx, if_pos hx, if_pos (by assumption)]; exact Yl.f2.right.f2.right.f2.right.f2.right.f3.right.f3.right.f3.right.f3.right.f2.f2) | (rw [if_pos hx, if_pos hx, if_neg (by assumption)]; exact Yl.f2.right.f2.right.f2.right.f2.right.f3.right.f3.right.f3.right.f3.right.f2.f2) | (rw [if_neg hx, if_neg hx, if_pos (by assumption)]; exact Yl.f2.right.f2.right.f2.right.f2.right.f3.right.f3.right.f3.right.f3.right.f2.f2) | (rw [if_neg hx, if_neg hx, if_neg (by assumption)]; exact Yl.f2.right.f2.right.f2.right.f2.right.f3.right.f3.right.f3.right.f3.right.f2.f2)
  ·(try simp only [aF] at h6)
   refine fV (bT O (fF O (dG results24 O ?_)))
   refine ⟨x, t, M2, hQ, by unfold dJ.Wu; first | rw [if_pos hx] | rw [if_neg hx], ?_⟩
   unfold VM.doM dJ.Wu dJ.doS
   first | (rw [if_pos hx, if_pos hx, if_pos (by assumption)]; exact CW.f2.right.f2.right.f3.right.f3.right.f3.right.f2) | (rw [if_pos hx, if_pos hx, if_neg (by assumption)]; exact CW.f2.right.f2.right.f3.right.f3.right.f3.right.f2) | (rw [if_neg hx, if_neg hx, if_pos (by assumption)]; exact CW.f2.right.f2.right.f3.right.f3.right.f3.right.f2) | (rw [if_neg hx, if_neg hx, if_neg (by assumption)]; exact CW.f2.right.f2.right.f3.right.f3.right.f3.right.f2)
 ·(try simp only [aF] at h5)
  have hx : ¬ x = 0 := h5
  refine fV (aO (bT O (bQ O (eG O func31 (Ci yL.f4) ?_))))
  rintro _ w24 ⟨rfl, Xk⟩
  refine gB O (bT O (Z (iZ O O) (iV O (fun h7 => ?_) (fun h7 => ?_))))
  ·(try simp only [aF] at h7)
   obtain ⟨Nv, Nw, Ny, wI, wU⟩ := (Xk.f4).vm
   obtain ⟨acn, aco, acp, Ql, DJ⟩ := (wU.f10).vm
   refine aB (jF O O (dL O (Z (fD fH O sizeOf119 O O (DJ).get.2) (dL O (aK (bW 0 (l' := [_, _, _, _, _, _, _, _]) (us := [_, _, _, _, _, _, _, _]) DJ.f5 sizeOf119 O O O (aA (aA (aA (aA (aX (by first | rfl | exact Rd.one ((DJ.f3).jG)) (aA (aX (by first | rfl | exact Rd.one ((DJ.f4).jG)) (aA bD)))))))) O O) ?_)))))
   rintro _ w27 NH
   have aaf := NH.f5.f5.f5.f4
   have SL := V.Bz (M := M) Ql aaf
   refine qQ O (fF O (dG results24 O ?_))
   refine ⟨x, t, M2, hQ, by unfold dJ.Wu; first | rw [if_pos hx] | rw [if_neg hx], ?_⟩
   unfold VM.doM dJ.Wu dJ.doS
   first | (rw [if_pos hx, if_pos hx, if_pos (by assumption)]; exact SL.f2.right.f2.right.f2.right.f2.right.f3.right.f3.right.f3.right.f3.right.f2.f2) | (rw [if_pos hx, if_pos hx, if_neg (by assumption)]; exact SL.f2.right.f2.right.f2.right.f2.right.f3.right.f3.right.f3.right.f3.right.f2.f2) | (rw [if_neg hx, if_neg hx, if_pos (by assumption)]; exact SL.f2.right.f2.right.f2.right.f2.right.f3.right.f3.right.f3.right.f3.right.f2.f2) | (rw [if_neg hx, if_neg hx, if_neg (by assumption)]; exact SL.f2.right.f2.right.f2.right.f2.right.f3.right.f3.right.f3.right.f3.right.f2.f2)
  ·(try simp only [aF] at h7)
   refine fV (bT O (fF O (dG results24 O ?_)))
   refine ⟨x, t, M2, hQ, by unfold dJ.Wu; first | rw [if_pos hx] | rw [if_neg hx], ?_⟩
   unfold VM.doM dJ.Wu dJ.doS
   first | (rw [if_pos hx, if_pos hx, if_pos (by assumption)]; exact Xk.f2.right.f2.right.f3.right.f3.right.f3.right.f2) | (rw [if_pos hx, if_pos hx, if_neg (by assumption)]; exact Xk.f2.right.f2.right.f3.right.f3.right.f3.right.f2) | (rw [if_neg hx, if_neg hx, if_pos (by assumption)]; exact Xk.f2.right.f2.right.f3.right.f3.right.f3.right.f2) | (rw [if_neg hx, if_neg hx, if_neg (by assumption)]; exact Xk.f2.right.f2.right.f3.right.f3.right.f3.right.f2)
end
end Go.Proofs.YtpdeedplgmbopaaGreatDoor
end
section
namespace Go.Proofs.YtpdeedplgmbopaaGreatDoor
open Go.RowKit Go.Lib
def Ym : ByteArray := ⟨#[40, 91, 123, 41, 93, 125]⟩
def NY : ByteArray := ⟨#[41, 93, 125]⟩
def NZ : ByteArray := ⟨#[40, 91, 123]⟩
def yF (r : Int) : Int := if r = 40 then 0 else if r = 91 then 1 else if r = 123 then 2 else if r = 41 then 3 else if r = 93 then 4 else 5
theorem FI {r : Int} (h : vk r = true) : r = 40 ∨ r = 91 ∨ r = 123 ∨ r = 41 ∨ r = 93 ∨ r = 125 := by unfold vk at h; simp at h; omega
theorem Rx {r : Int} : r ∈ wS Ym ↔ vk r = true := by
  rw [show wS Ym = [40, 91, 123, 41, 93, 125] from by rfl]
  unfold vk; simp; omega
theorem aaG {r : Int} (h : vk r = true) : indexByte Ym.data.toList (r % 256).toNat.toUInt8 = yF r := by
  rcases FI h with rfl | rfl | rfl | rfl | rfl | rfl <;> rfl
theorem Wx (r : Int) : 0 ≤ yF r ∧ yF r ≤ 5 := by
  unfold yF
  repeat' split
  all_goals omega
theorem FK {r : Int} (h : vk r = true) (hk : yF r < 3) : sb NY (yF r % 3).toNat = Eh r ∧ Dn r = 1 := by
  rcases FI h with rfl | rfl | rfl | rfl | rfl | rfl <;> first | exact ⟨rfl, rfl⟩ | exact absurd hk (by decide)
theorem FM {r : Int} (h : vk r = true) (hk : 3 ≤ yF r) : sb NZ (yF r - 3).toNat = Eh r ∧ Dn r = -1 := by
  rcases FI h with rfl | rfl | rfl | rfl | rfl | rfl <;> first | exact ⟨rfl, rfl⟩ | exact absurd hk (by decide)
theorem Yn (r : Int) : Dn r = 1 ∨ Dn r = -1 := by unfold Dn; split <;> simp
theorem Yo {r : Int} (h : vk r = true) : Eh r ≠ r := by rcases FI h with rfl | rfl | rfl | rfl | rfl | rfl <;> decide
theorem Yp (i : Nat) : 0 ≤ sb NY i ∧ sb NY i < 128 := Zd (by decide) i
theorem Yq (i : Nat) : 0 ≤ sb NZ i ∧ sb NZ i < 128 := Zd (by decide) i
def wM (a b d x : Int) : Int := d + (if x = a then 1 else 0) - (if x = b then 1 else 0)
theorem TG {a b d x : Int} (h : wM a b d x = 0) : GU a b d x = none := if_pos h
theorem Wy {a b d x : Int} (h : ¬ wM a b d x = 0) : GU a b d x = some (wM a b d x) := if_neg h
theorem Yr {a b d x : Int} (h : x = a) (hab : b ≠ a) : wM a b d x = d + 1 := by unfold wM; rw [if_pos h, if_neg (by omega)]; omega
theorem Yt {a b d x : Int} (h : ¬ x = a) (hb : x = b) : wM a b d x = d - 1 := by unfold wM; rw [if_neg h, if_pos hb]; omega
theorem Yu {a b d x : Int} (h : ¬ x = a) (hb : ¬ x = b) : wM a b d x = d := by unfold wM; rw [if_neg h, if_neg hb]; omega
theorem WA (a b d x : Int) : d - 1 ≤ wM a b d x ∧ wM a b d x ≤ d + 1 := by unfold wM; split <;> split <;> omega
section
variable {l : List Int} {x i j : Int}
theorem N7 (h : (l.length : Int) ≤ jY (fun r => !vk r) l x) : wE l x = (0, false, false) := if_pos h
theorem BF (e : jY (fun r => !vk r) l x = i) (h : i < l.length) (hs : uT (Dn (l.getD i.toNat 0)) (GU (l.getD i.toNat 0) (Eh (l.getD i.toNat 0))) l 0 i = none) : wE l x = (0, false, false) := by
  unfold wE; rw [e, if_neg (by omega), hs]
theorem IY (e : jY (fun r => !vk r) l x = i) (h : i < l.length) (hs : uT (Dn (l.getD i.toNat 0)) (GU (l.getD i.toNat 0) (Eh (l.getD i.toNat 0))) l 0 i = some j) : wE l x = (j, true, true) := by
  unfold wE; rw [e, if_neg (by omega), hs]
end
section
variable {w0 w : World} {F : HP} {v : Value} {l : List Int} {x n key c r : Int} {s : ByteArray}
theorem TI (h : vk r = true) : gQ Tryz.prog 98 #[.string ⟨#[40, 91, 123, 41, 93, 125]⟩, .int .u8 (r % 256)] w fun v w' => v = .int .i64 (yF r) ∧ w = w' := Dt.mono fun v w' h2 => ⟨h2.1.trans (congrArg (Value.int .i64) (aaG h)), h2.2⟩
theorem Lp (H : V w0 w F) (hr : jM w0 F .i32 v l) (hx : 0 ≤ x ∧ x ≤ l.length) (Ug : l.length ≤ 4611686018427387904) : gQ Tryz.prog 43 #[v, .int .i64 x] w fun u w' => u = SX (wE l x) ∧ V w0 w' F := by
 refine nH Tryz.func43 Tryz.ntmps43 ?_
 refine iy (fU O (fU O (vZ O (bT O (gB O (aZ ?_))))))
 refine fC [(0, _)] (fun (i : Int) => [(7, .int .i64 i)]) (fun (i : Int) W => ((0 ≤ i ∧ i ≤ l.length) ∧ jY (fun r => !vk r) l i = jY (fun r => !vk r) l x) ∧ V w0 W F) (fun (i : Int) => (l.length - i).toNat) (x) kD kD ⟨⟨hx, O⟩, H⟩ ?_
 rintro i w1 ⟨⟨hi, hE⟩, HL⟩
 dsimp only [List.cons_append, List.nil_append]
 refine aO (bT O (bQ O (Z (iF (hr _ (HL)) ay O) (Z (gZ O O) (iV O (fun h1 => ?_) (fun h1 => ?_))))))
 ·(try simp only [aF] at h1)
  refine fV (aO (aZ (aO (bT O (bQ O ?_)))))
  obtain ⟨bv, ov, cv, ev⟩ := eX.nX (hr _ (HL)) (by omega)
  cases ev
  refine Z (dw ay bK O O (by omega)) ?_
  refine Z (dR (bV bf O) O (by first | exact eX.jT (hr _ (HL)) (by omega) | exact eX.rP (hr _ (HL)) (by omega) | exact eX.rO (hr _ (HL)) (by omega))) ?_
  refine eG O Tryz.func50 (Du (s := Ym) (by decide)) ?_
  rintro _ _ ⟨rfl, rfl⟩
  refine Z (lS O) (iV O (fun h2 => ?_) (fun h2 => ?_))
  ·(try simp only [aF] at h2)
   have hno : vk (l.getD i.toNat 0) = false := by have h9 := h2; rw [← Bool.not_eq_true, ← Rx]; simpa using h9
   refine dn (aI (aY (aW (aB (bQ O (Z (fK O O (by omega)) (fU O (bP ?_))))))))
   refine dH (i + 1) ?_ ?_ ?_ ?_
   ·exact kD
   ·exact kD
   ·(try dsimp only)
    first | done | exact ⟨⟨by omega, (qy hi.1 (by omega) (by show (!vk _) = true; rw [hno]; rfl)).symm.trans hE⟩, HL⟩
   ·(try dsimp only); omega
  ·(try simp only [aF] at h2)
   have hbr : vk (l.getD i.toNat 0) = true := by have h9 := h2; rw [← Rx]; simpa using h9
   have hR : jY (fun r => !vk r) l x = i := hE.symm.trans (kU hi.1 (by omega) (by show ¬ (!vk _) = true; rw [hbr]; decide))
   have hkb := Wx (l.getD i.toNat 0)
   refine fV (bT O (bQ O (Z (dw ay bK O O (by omega)) ?_)))
   refine Z (dR (bV bf O) O (by first | exact eX.jT (hr _ (HL)) (by omega) | exact eX.rP (hr _ (HL)) (by omega) | exact eX.rO (hr _ (HL)) (by omega))) ?_
   refine Z (JD O (by rw [Tryz.underlying21]; rfl) Tryz.underlying5) ?_
   refine eG O Tryz.func98 (TI hbr) ?_
   rintro _ _ ⟨rfl, rfl⟩
   refine vZ O ?_
   have aaH := HL.drew
   have Ia := V.kp (aaH)
   refine yj [2] Ia O (jE 0 O Ia O ?_)
   refine jC 1 O Ia (fun _ => YQ O O (by omega) (by  omega)) ?_
   refine jQ 2 O Ia (fun W hW => EL iR O O (by exact ⟨by omega, by show _ < (3 : Int); omega⟩)) ?_
   refine jC 3 O Ia (fun _ => rX O (by rw [Tryz.underlying5]; rfl) bf (AP (by have := Yp (yF (l.getD i.toNat 0) % 3).toNat; show -2147483648 ≤ sb NY _ ∧ sb NY _ < 2147483648; omega))) ?_
   refine jC 4 O Ia (fun _ => dQ O) (jC 5 O Ia (fun _ => dQ O) (qR (aW ?_)))
   refine jW [(0, _), (7, _)] (fun (_ : Unit) => [(9, .int .i64 (Dn (l.getD i.toNat 0))), (10, .int .i32 (Eh (l.getD i.toNat 0)))]) (fun (_ : Unit) W => V w0 W F) oO ?_ ?_
   ·rintro _ w4 HJ
    dsimp only [List.cons_append, List.nil_append]
    have hst := Yn (l.getD i.toNat 0)
    have hne := Yo hbr
    refine jk O (aO (bT O (gB O (aZ ?_))))
    have hmi := Ei (n := l.length) (i := i) hst (by omega) (by omega)
    refine fC [(0, _), (7, _), (9, _), (10, _)] (fun (⟨j, d⟩ : Int × Int) => [(11, .int .i64 d), (12, .int .i64 j)]) (fun (⟨j, d⟩ : Int × Int) W => ((-1 ≤ j ∧ j ≤ l.length) ∧ (d + Bv (Dn (l.getD i.toNat 0)) l.length j ≤ l.length + 1 ∧ Bv (Dn (l.getD i.toNat 0)) l.length j - d ≤ l.length + 1) ∧ uT (Dn (l.getD i.toNat 0)) (GU (l.getD i.toNat 0) (Eh (l.getD i.toNat 0))) l 0 i = uT (Dn (l.getD i.toNat 0)) (GU (l.getD i.toNat 0) (Eh (l.getD i.toNat 0))) l d j) ∧ V w0 W F) (fun (⟨j, d⟩ : Int × Int) => (Bv (Dn (l.getD i.toNat 0)) l.length j).toNat) ((i, 0)) Kq oO ⟨⟨by omega, by omega, O⟩, HJ⟩ ?_
    rintro ⟨j, d⟩ w5 ⟨⟨hj, hd, hF⟩, HM⟩
    dsimp only [List.cons_append, List.nil_append]
    have hms := GX (n := l.length) (i := j) hst
    have hmp := fun h0 h1 => Ei (n := l.length) (i := j) hst h0 h1
    have hdb := WA (l.getD i.toNat 0) (Eh (l.getD i.toNat 0)) d (l.getD j.toNat 0)
    refine aO (bT O (Z (lJ O O) (jL O (fun h3 => ?_) (fun h3 => ?_))))
    ·(try simp only [aF] at h3)
     refine bC (bQ O (bC (bQ O (bC (Z (nM ay O) (bC (Z (gZ O O) (jw O O (iV O (fun h4 => ?_) (fun h4 => ?_))))))))))
     ·(try simp only [aF] at h4)
      refine fV (aO (aZ ?_))
      refine jW [(0, _), (7, _), (9, _), (10, _), (12, _), (46, _), (47, _), (48, _), (49, _)] (fun (_ : Unit) => [(11, .int .i64 (wM (l.getD i.toNat 0) (Eh (l.getD i.toNat 0)) d (l.getD j.toNat 0)))]) (fun (_ : Unit) W => V w0 W F) (Sub.cons O (Sub.cons O (Sub.cons O Ud))) ?_ ?_
      ·rintro _ w6 HK
       dsimp only [List.cons_append, List.nil_append]
       refine bT O (Z (dO O O) (iV O (fun h5 => ?_) (fun h5 => ?_)))
       ·(try simp only [aF] at h5)
        have hd0 : wM (l.getD i.toNat 0) (Eh (l.getD i.toNat 0)) d (l.getD j.toNat 0) = 0 := h5
        refine bT O (fU O (fU O (fF O (aS (aG (aG (aS (aG (aS (aG (aG (aS (aG ?_)))))))))))))
        refine gY (.inl O) Tryz.results43 O O O ?_
        exact ⟨by rw [IY hR (by omega) (hF.trans (AO (by omega) (by omega) (TG hd0)))]; rfl, HK⟩
       ·(try simp only [aF] at h5)
        have hd0 : ¬ wM (l.getD i.toNat 0) (Eh (l.getD i.toNat 0)) d (l.getD j.toNat 0) = 0 := h5
        refine bU (aJ (aW (aB (jF O O (Z (fK O O (by omega)) (fU O (bP ?_)))))))
        refine dH (_, _) oO Kq (by (try dsimp only); exact ⟨⟨by omega, by omega, hF.trans (GR hst (by omega) (by omega) (Wy hd0))⟩, HK⟩) ?_
        ·(try dsimp only); have := hmp (by omega) (by omega); omega
      ·skip
       refine aO ?_
       have hmq := hmp (by omega) (by omega)
       refine aB (jF O O (Z (dw ay bK O O (by omega)) ?_))
       refine Z (dR (bV bf O) O (by first | exact eX.jT (hr _ (HM)) (by omega) | exact eX.rP (hr _ (HM)) (by omega) | exact eX.rO (hr _ (HM)) (by omega))) ?_
       refine iK (aZ (bT O (bQ O (Z (dw ay bK O O (by omega)) ?_))))
       refine Z (dR (bV bf O) O (by first | exact eX.jT (hr _ (HM)) (by omega) | exact eX.rP (hr _ (HM)) (by omega) | exact eX.rO (hr _ (HM)) (by omega))) ?_
       refine Z (dO O O) (gB O (bG O (fun h6 => ?_) (fun h6 => ?_)))
       ·(try simp only [aF] at h6)
        have ha : l.getD j.toNat 0 = l.getD i.toNat 0 := h6
        have hdN := Yr (d := d) ha hne
        refine aB (bQ O (Z (fK O O (by omega)) (fU O (bP (aJ ?_)))))
        refine cO (()) ?_ ?_ ?_
        ·exact (Sub.iY O (by rw [hdN]) (Sub.nil _))
        ·exact (Sub.cons O (Sub.cons O (Sub.cons O Ud)))
        ·(try dsimp only)
         first | done | exact HM
       ·(try simp only [aF] at h6)
        have ha : ¬ l.getD j.toNat 0 = l.getD i.toNat 0 := h6
        refine bT O (Z (dO O O) (gB O (bG O (fun h7 => ?_) (fun h7 => ?_))))
        ·(try simp only [aF] at h7)
         have hdN := Yt (d := d) ha h7
         refine aB (bQ O (Z (lu O O (by omega)) (fU O (bP (aJ ?_)))))
         refine cO (()) ?_ ?_ ?_
         ·exact (Sub.iY O (by rw [hdN]) (Sub.nil _))
         ·exact (Sub.cons O (Sub.cons O (Sub.cons O Ud)))
         ·(try dsimp only)
          first | done | exact HM
        ·(try simp only [aF] at h7)
         have hdN := Yu (d := d) ha h7
         refine bU (aJ ?_)
         refine cO (()) ?_ ?_ ?_
         ·exact (Sub.iY O (by rw [hdN]) (Sub.nil _))
         ·exact (Sub.cons O (Sub.cons O (Sub.cons O Ud)))
         ·(try dsimp only)
          first | done | exact HM
     ·(try simp only [aF] at h4)
      refine dn (aI (aI (aY (aW (iy (fU O (fU O (fF O (aS (aG (aG (aS (aG ?_)))))))))))))
      refine gY (.inl O) Tryz.results43 O O O ?_
      exact ⟨by rw [BF hR (by omega) (hF.trans (AL (by omega)))]; rfl, HM⟩
    ·(try simp only [aF] at h3)
     refine bH (bH (bH (bH (iJ O O (iK (pW (dn (aI (aI (aY (aW (iy (fU O (fU O (fF O (aS (aG (aG (aS (aG ?_))))))))))))))))))))
     refine gY (.inl O) Tryz.results43 O O O ?_
     exact ⟨by rw [BF hR (by omega) (hF.trans (AL (by omega)))]; rfl, HM⟩
   ·skip
    refine bT O (Z (lJ O O) (iV O (fun h8 => ?_) (fun h8 => ?_)))
    ·(try simp only [aF] at h8)
     have hk3 : 3 ≤ yF (l.getD i.toNat 0) := h8
     have acq := aaH.drew
     have Ib := V.kp (acq)
     refine yj [2] Ib O (jE 0 O Ib O (jC 1 O Ib (fun _ => lu O O (by omega)) ?_))
     refine jQ 2 O Ib (fun W hW => EL iR O O (by exact ⟨by omega, by show _ < (3 : Int); omega⟩)) ?_
     refine jC 3 O Ib (fun _ => rX O (by rw [Tryz.underlying5]; rfl) bf (AP (by have := Yq (yF (l.getD i.toNat 0) - 3).toNat; show -2147483648 ≤ sb NZ _ ∧ sb NZ _ < 2147483648; omega))) ?_
     refine jC 4 O Ib (fun _ => dQ O) (jC 5 O Ib (fun _ => dQ O) (qR ?_))
     refine cO (()) ?_ ?_ ?_
     ·exact (Sub.iY O (by first | exact congrArg (Value.int .i64) (FK hbr (by assumption)).2.symm | exact congrArg (Value.int .i64) (FM hbr (by assumption)).2.symm) (Sub.iY O (by first | exact congrArg (Value.int .i32) (FK hbr (by assumption)).1 | exact congrArg (Value.int .i32) (FM hbr (by assumption)).1) (Sub.nil _)))
     ·exact oO
     ·(try dsimp only)
      first | done | exact acq
    ·(try simp only [aF] at h8)
     have hk3 : yF (l.getD i.toNat 0) < 3 := by have h9 := h8; omega
     refine bU ?_
     refine cO (()) ?_ ?_ ?_
     ·exact (Sub.iY O (by first | exact congrArg (Value.int .i64) (FK hbr (by assumption)).2.symm | exact congrArg (Value.int .i64) (FM hbr (by assumption)).2.symm) (Sub.iY O (by first | exact congrArg (Value.int .i32) (FK hbr (by assumption)).1 | exact congrArg (Value.int .i32) (FM hbr (by assumption)).1) (Sub.nil _)))
     ·exact oO
     ·(try dsimp only)
      first | done | exact aaH
 ·(try simp only [aF] at h1)
  refine dn (aI (aI (aY (aW (iy (fU O (fU O (fF O ?_))))))))
  refine gY (.inl O) Tryz.results43 O O O ?_
  exact ⟨by rw [N7 (by rw [← hE, jr (by omega)]; omega)]; rfl, HL⟩
end
end Go.Proofs.YtpdeedplgmbopaaGreatDoor
end
section
namespace Go.Proofs.YtpdeedplgmbopaaGreatDoor
open Go.RowKit
open _root_.Go.Proofs.Tryz
def Ic (w0 : World) (fv : Value) (g : List Int → Int → Bool → Int) (I : List Int → Int → Prop) : Prop := fv.oneCell' = true ∧ ∀ (F : HP) (W : World) (v : Value) (l : List Int) (x : Int) (b : Bool), V w0 W F → jM w0 F .i32 v l → l.length ≤ 4611686018427387904 → I l x →
  qY prog fv [v, .int .i64 x, .bool b] W fun u W' => (u = .int .i64 (g l x b) ∧ I l (g l x b)) ∧ V w0 W' F
def Ry (w0 : World) (fv : Value) (m : List Int → Int → Bool) : Prop := fv.oneCell' = true ∧ ∀ (F : HP) (W : World) (v : Value) (l : List Int) (x : Int), V w0 W F → jM w0 F .i32 v l →
  qY prog fv [v, .int .i64 x] W fun u W' => u = .bool (m l x) ∧ V w0 W' F
def inL (l : List Int) (x : Int) : Prop := 0 ≤ x ∧ x ≤ l.length
def acr (l : List Int) (x : Int) : Prop := 0 ≤ x ∧ x < l.length
section
variable {w0 : World}
theorem JQ (hT : yK w0) : Ic w0 (.func (.func 95) #[] #[]) xk inL :=
  ⟨rfl, fun F W v l x b H hr hl hx => ⟨95, [], [], _, _, rfl, func95, rfl, rfl, (SS H hr hT hx.1 hx.2).mono fun u W' h => ⟨⟨h.1, by have := Vt l b hx.1 hx.2; exact ⟨Int.le_trans hx.1 this.1, this.2⟩⟩, h.2⟩⟩⟩
theorem JR (hT : yK w0) : Ic w0 (.func (.func 96) #[] #[]) zn inL :=
  ⟨rfl, fun F W v l x b H hr hl hx => ⟨96, [], [], _, _, rfl, func96, rfl, rfl, (SV H hr hT hx.1 hx.2).mono fun u W' h => ⟨⟨h.1, by have := Vu l b hx.1 hx.2; exact ⟨this.1, Int.le_trans this.2 hx.2⟩⟩, h.2⟩⟩⟩
theorem step_end (hT : yK w0) : Ic w0 (.func (.func 97) #[] #[]) E8 acr :=
  ⟨rfl, fun F W v l x b H hr hl hx => ⟨97, [], [], _, _, rfl, func97, rfl, rfl, (Vs H hr hT hx.1 (Int.le_of_lt hx.2) hl).mono fun u W' h => ⟨⟨h.1, by have := X3 l b hx.1 hx.2; exact ⟨Int.le_trans hx.1 this.1, this.2⟩⟩, h.2⟩⟩⟩
end
section
variable {w0 w : World} {F : HP} {v : Value} {l : List Int} {x : Int}
theorem Qm (H : V w0 w F) (hr : jM w0 F .i32 v l) : gQ prog 92 #[v, .int .i64 x] w fun u w' => u = .bool (decide (x < l.length)) ∧ V w0 w' F := by
  refine nH func92 ntmps92 ?_
  refine jk O (bT O (bQ O (Z (iF (hr _ (H)) ay O) (Z (gZ O O) (fF O (dG results92 O ?_))))))
  exact ⟨O, H⟩
theorem TJ (H : V w0 w F) (hr : jM w0 F .i32 v l) : gQ prog 93 #[v, .int .i64 x] w fun u w' => u = .bool (decide (0 < x)) ∧ V w0 w' F := by
  refine nH func93 ntmps93 ?_
  refine jk O (bT O (Z (jc O O) (fF O (dG results93 O ?_))))
  exact ⟨O, H⟩
theorem Qn (H : V w0 w F) (hr : jM w0 F .i32 v l) : gQ prog 94 #[v, .int .i64 x] w fun u w' => u = .bool (decide (x < (l.length : Int) - 1)) ∧ V w0 w' F := by
  have Ug : l.length ≤ 9223372036854775807 := by have := (hr _ H).open; obtain ⟨a, c, e, h3, h4, _⟩ := this; omega
  refine nH func94 ntmps94 ?_
  refine jk O (bT O (bQ O (Z (iF (hr _ (H)) ay O) (Z (lu O O (by omega)) (Z (gZ O O) (fF O (dG results94 O ?_)))))))
  exact ⟨O, H⟩
end
section
variable {w0 : World}
theorem Ie : Ry w0 (.func (.func 92) #[] #[]) fun l x => decide (x < l.length) := ⟨rfl, fun F W v l x H hr => ⟨92, [], [], _, _, rfl, func92, rfl, rfl, Qm H hr⟩⟩
theorem JU : Ry w0 (.func (.func 93) #[] #[]) fun l x => decide (0 < x) := ⟨rfl, fun F W v l x H hr => ⟨93, [], [], _, _, rfl, func93, rfl, rfl, TJ H hr⟩⟩
theorem Ig : Ry w0 (.func (.func 94) #[] #[]) fun l x => decide (x < (l.length : Int) - 1) := ⟨rfl, fun F W v l x H hr => ⟨94, [], [], _, _, rfl, func94, rfl, rfl, Qn H hr⟩⟩
end
section
variable {w0 w : World} {F : HP} {v fv : Value} {l : List Int} {x n : Int} {g : Int → Int} {I : Int → Prop}
theorem Qo (H : V w0 w F) (hf : ∀ W y, V w0 W F → I y → qY prog fv [.int .i64 y] W fun u W' => (u = .int .i64 (g y) ∧ I (g y)) ∧ V w0 W' F) (hx : I x) (hn : n ≤ 9223372036854775807) : gQ prog 90 #[.int .i64 x, .int .i64 n, fv] w fun u w' => u = .int .i64 (yD g n.toNat x) ∧ V w0 w' F := by
 refine FY func90 ntmps90 ?_
 refine jk O (aO (bT O (bQ O (iK (aZ ?_)))))
 refine fC [(2, _), (8, _)] (fun (⟨k, y⟩ : Nat × Int) => [(0, .int .i64 y), (9, .int .i64 (k : Int))]) (fun (⟨k, y⟩ : Nat × Int) W => ((k : Int) ≤ max n 0 ∧ I y ∧ yD g n.toNat x = yD g (n.toNat - k) y) ∧ V w0 W F) (fun (⟨k, y⟩ : Nat × Int) => n.toNat - k) ((0, x)) oO oO ⟨⟨by omega, hx, O⟩, H⟩ ?_
 rintro ⟨k, y⟩ w1 ⟨⟨hk, hy, he⟩, HL⟩
 dsimp only [List.cons_append, List.nil_append]
 refine iy (Z (gZ O O) (pJ (bG O (fun h1 => ?_) (fun h1 => ?_))))
 ·(try simp only [aF] at h1)
  refine fV (aO (aZ (bT O (bQ O (jy (nN O O (hf _ _ HL hy)) ?_)))))
  rintro _ w2 ⟨⟨rfl, hgy⟩, H2⟩
  refine vZ O (bT O (bQ O (Z (dO O O) (iV O (fun h2 => ?_) (fun h2 => ?_)))))
  ·(try simp only [aF] at h2)
   have heq : g y = y := h2
   refine dn (aI ?_)
   refine Bc (by decide) ?_
   refine aI (aI (aY (aW (bT O (fF O (dG results90 O ?_))))))
   exact ⟨by rw [he]; first | rw [GV heq] | (rw [show n.toNat - k = 0 from by omega]; rfl), H2⟩
  ·(try simp only [aF] at h2)
   have hne : ¬ g y = y := h2
   refine fV (aB (bQ O (fU O (bP (aJ (aW (aB (Z (fK O O (by omega)) (bQ O (bP ?_))))))))))
   refine dH ((k + 1, g y)) ?_ ?_ ?_ ?_
   ·exact oO
   ·exact oO
   ·(try dsimp only)
    first | done | exact ⟨⟨by omega, hgy, by rw [he, PO (by omega) hne]; rfl⟩, H2⟩
   ·(try dsimp only); omega
 ·(try simp only [aF] at h1)
  refine dn (aI (aI (aY (aW (bT O (fF O (dG results90 O ?_)))))))
  exact ⟨by rw [he]; first | rw [GV heq] | (rw [show n.toNat - k = 0 from by omega]; rfl), HL⟩
end
structure MP where
  ps : Nat
  pb : Nat
  pw : Nat
  pm : Nat
def N8 (p : MP) : Value := .func (.func 89) #[] #[.pointer (some ⟨p.pm, 0, none⟩), .pointer (some ⟨p.ps, 0, none⟩), .pointer (some ⟨p.pb, 0, none⟩), .pointer (some ⟨p.pw, 0, none⟩)]
def ni (p : MP) (sv : Value) (b t : Bool) (mv : Value) : HP := dM p.pm (.cells #[mv] 66 (0, 0)) • dM p.pw (.cells #[.bool t] 4 (0, 0)) • dM p.pb (.cells #[.bool b] 4 (0, 0)) • dM p.ps (.cells #[sv] 141 (0, 0))
section
variable {w0 w : World} {F : HP} {v sv mv : Value} {l : List Int} {x n : Int} {b t : Bool} {p : MP} {ps pl pb pw pm : Nat} {g : List Int → Int → Bool → Int} {I : List Int → Int → Prop} {m : List Int → Int → Bool}
theorem Qp (H : V w0 w (dM ps (.cells #[sv] 141 (0, 0)) • dM pl (.cells #[v] 22 (0, 0)) • dM pb (.cells #[.bool b] 4 (0, 0)) • F)) (hf : Ic w0 sv g I) (hr : jM w0 F .i32 v l) (hl : l.length ≤ 4611686018427387904) (hx : I l x) :
    gQ prog 91 #[.int .i64 x, .pointer (some ⟨ps, 0, none⟩), .pointer (some ⟨pl, 0, none⟩), .pointer (some ⟨pb, 0, none⟩)] w fun u w' => (u = .int .i64 (g l x b) ∧ I l (g l x b)) ∧ V w0 w' (dM ps (.cells #[sv] 141 (0, 0)) • dM pl (.cells #[v] 22 (0, 0)) • dM pb (.cells #[.bool b] 4 (0, 0)) • F) := by
  refine Uc func91 ntmps91 ?_
  dsimp only [vP, Nat.reduceAdd]
  refine jk O (iy (gq underlying141 O (H).get.2 O (gq ay O (H.f2).get.2 O (bQ O (gq bM O (H.f3).get.2 O (jy (nN O O (hf.2 _ _ _ l _ _ H (fun W HW => hr _ (HW.right.right.right)) hl hx)) ?_))))))
  rintro _ w1 ⟨⟨rfl, hgx⟩, H1⟩
  refine fF O (dG results91 O ?_)
  exact ⟨⟨O, hgx⟩, H1⟩
theorem yG (H : V w0 w (ni p sv b t mv • F)) (hf : Ic w0 sv g I) (hm : Ry w0 mv m) (hI : ∀ y, m l y = true → inL l y → I l y) (hr : jM w0 F .i32 v l) (hl : l.length ≤ 4611686018427387904) (hx : inL l x) (hn : n ≤ 9223372036854775807) :
  qY prog (N8 p) [v, .int .i64 x, .int .i64 n] w fun u w' => u = SX (if m l x = true then (yD (fun y => g l y b) n.toNat x, t, true) else (0, false, false)) ∧ V w0 w' (ni p sv b t mv • F) := by
 obtain ⟨ps, pb, pw, pm⟩ := p
 refine ⟨_, [], _, _, _, O, func89, O, O, ?_⟩
 have H0 : V w0 w (dM pm (.cells #[mv] 66 (0, 0)) • dM pw (.cells #[.bool t] 4 (0, 0)) • dM pb (.cells #[.bool b] 4 (0, 0)) • dM ps (.cells #[sv] 141 (0, 0)) • F) := H.of_eq (by unfold ni; simp only [bZ])
 have hback : ∀ {W : World}, V w0 W (dM pm (.cells #[mv] 66 (0, 0)) • dM pw (.cells #[.bool t] 4 (0, 0)) • dM pb (.cells #[.bool b] 4 (0, 0)) • dM ps (.cells #[sv] 141 (0, 0)) • F) → V w0 W (ni ⟨ps, pb, pw, pm⟩ sv b t mv • F) := fun h => h.of_eq (by unfold ni; simp only [bZ])
 simp only [List.nil_append, List.cons_append]
 refine Uc func89 ntmps89 ?_
 dsimp only [vP, Nat.reduceAdd]
 refine iy (jy (iO (l := [_]) H0 O (by first | rfl | exact Au (by first | rfl | exact Rd.one (hr _ (H0.right.right.right.right))))) ?_)
 rintro _ w1 ⟨b1, rfl, H1⟩
 refine fU O (fU O (vZ O (iy (gq underlying66 O (H1.f2).get.2 O (gq ay O (H1).get.2 O (bQ O (jy (nN O O (hm.2 _ _ _ l _ H1 (fun W HW => hr _ (HW.right.right.right.right.right)))) ?_)))))))
 rintro _ w2 ⟨rfl, H2⟩
 refine Z (lS O) (iV O (fun h1 => ?_) (fun h1 => ?_))
 ·(try simp only [aF] at h1)
  have hno : ¬ m l x = true := by have h9 := h1; simpa using h9
  refine iy (fU O (fU O (fF O (aG ?_))))
  refine gY (.inl O) results89 O O O ?_
  exact ⟨by rw [if_neg hno]; rfl, hback H2.right.f4.f4.f4.f4⟩
 ·(try simp only [aF] at h1)
  have hyes : m l x = true := by have h9 := h1; simpa using h9
  refine fV (aO ?_)
  have AZ := H2.drew
  have gW := V.kp (AZ.f5.f5.f5.f5.f5)
  refine yj [4] gW O (jE 0 O gW O (jE 1 O gW O (jC 2 O gW (fun _ => vU O O) (jQ 4 O gW (fun W hW => kC bM O ((Kp.h hW).f3).get.2 O) (oC 3 O (yJ O func90 (Qo (g := fun y => g l y b) (I := I l) AZ (fun W y HW hy => ⟨_, [], _, _, _, O, func91, O, O, (Qp (F := dM pm (.cells #[mv] 66 (0, 0)) • dM pw (.cells #[.bool t] 4 (0, 0)) • F) (HW.of_eq (by ac_rfl)) hf (fun W HW => hr W HW.right.right) hl hy).mono fun u W2 h => ⟨h.1, h.2.of_eq (by ac_rfl)⟩⟩) (hI x hyes hx) hn)) ?_)))))
  rintro _ w3 ⟨rfl, H3⟩
  have yN := V.kp (H3.f5.f5.f5.f5.f5)
  refine dX yN (fun W hW => (Kp.h hW).f5.f5.f5.f5.f5) ?_
  refine jC 5 O yN (fun _ => dQ O) (jC 6 O yN (fun _ => dQ O) (jC 7 O yN (fun _ => dQ O) (qR (aW (mG ?_)))))
  refine gY (.inl O) results89 O O O ?_
  exact ⟨by rw [if_pos hyes]; rfl, hback H3.right.f4.f4.f4.f4⟩
end
end Go.Proofs.YtpdeedplgmbopaaGreatDoor
end
