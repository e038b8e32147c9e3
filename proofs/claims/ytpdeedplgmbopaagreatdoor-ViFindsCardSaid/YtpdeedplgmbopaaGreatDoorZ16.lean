import Derived.Test.YtpdeedplgmbopaaGreatDoorZ4
import Derived.Test.YtpdeedplgmbopaaGreatDoorZ11
import Derived.Test.YtpdeedplgmbopaaGreatDoorZ15
import Derived.Test.YtpdeedplgmbopaaGreatDoorZ12
import Derived.Test.YtpdeedplgmbopaaGreatDoorZ14
import Derived.Test.YtpdeedplgmbopaaGreatDoorZ13
import Derived.Test.YtpdeedplgmbopaaGreatDoorZ10
import Derived.Test.YtpdeedplgmbopaaGreatDoorZ8
set_option linter.unusedSimpArgs false
set_option linter.unusedVariables false
/- Texts of mine, joined, their names in short: VD Atom2 EdCl VDo VB VGo. -/
section
namespace Go.Proofs.YtpdeedplgmbopaaGreatDoor
open Go.RowKit
open _root_.Go.Proofs.Tryz
abbrev VC (c m e : Nat) (name : ByteArray) (kv : Value) (n : Int) (g : Bool) (lv : Value) (p : Int) : HP := dL c (.cells #[.pointer (some ⟨m, 0, none⟩), .pointer (some ⟨e, 0, none⟩), .string name, kv, .int .i64 n, .bool g, lv, .int .i64 p] 130 (0, 0))
namespace dG
variable (s : dG)
def zA : Prop := s.c.mode = 2 ∧ 0 < s.c.L.length ∧ s.c.pt = s.c.L.length
instance : Decidable s.zA := by unfold zA; infer_instance
def Hl : Int := if s.zA then s.Jv ((s.c.L.length : Int) - 1) else 0
def Ho : dG := if s.zA then s.EI ((s.c.L.length : Int) - 1) else s
end dG
section
variable {w0 w : World} {F : HP} {c m e : Nat} {s : dG} {name : ByteArray} {kv lv : Value} {n p : Int} {g : Bool}
theorem KY (H : V w0 w (VC c m e name kv n g lv p • gB e s • F)) : gJ prog 75 #[.pointer (some ⟨c, 0, none⟩)] w fun v w' => v = .int .i64 s.Hl ∧ V w0 w' (VC c m e name kv n g lv p • gB e s.Ho • F) := by
 have Vm : s.c.L.length ≤ 1024 := by
  obtain ⟨pb, pr, pw, pt, pm, ph, bl, pv, es, u0, u1, u2, u3, u4, u5, u6, u7, u8, u9, ua, h, _, _, H2⟩ := H.f2.Gu
  obtain ⟨a, c, xs, f, t, h1, h2, h3, h4, h5, h6, h7, _⟩ := H2.f2.buf
  exact h4
 refine iG func75 ntmps75 ?_
 refine jr O (bT O (dJ O (bD 1 dw O sizeOf37 O (fZ kH O (H).get.2 O (dY O func28 (Ad H.f2) ?_)))))
 rintro _ w1 ⟨u1, rfl, H1⟩
 refine jv (fJ (l := [_, _, _]) H1 zeroValue46 O) ?_
 rintro _ w2 ⟨b2, rfl, H2⟩
 refine aH (bU 0 (l' := [_, _, _]) (us := [_, _, _]) H2 sizeOf46 O O O (aW (by first | rfl | exact Rd.one ((H2.f2).aS)) (aA (aA bF))) O O) ?_
 rintro _ w3 H3
 refine pK (bT O (dJ O (bD 1 dw O sizeOf37 O (fZ kH O (H3.f4).get.2 O (dY O func23 (KX H3.f3) ?_)))))
 rintro _ w4 ⟨u4, ks4, us4, sv4, rfl, H4⟩
 refine aV (EO 3 iq O O (bY aK O) O O) (aV (dR O O) (jF O (fun h1 => ?_) (fun h1 => ?_)))
 ·(try simp only [Z] at h1)
  refine bC (bD 0 jk O dM O (bC (fZ ay O (H4.f6).get.2 O (bC (aV (iQ ((H4.f7).aS) ay O) (bC (aV (iV O O) (jE O O (jF O (fun h2 => ?_) (fun h2 => ?_))))))))))
  ·(try simp only [Z] at h2)
   refine bC (bD 1 jk O aj O (bC (fZ aK O (H4.f6).get.2 O (bC (bD 0 jk O dM O (bC (fZ ay O (H4.f6).get.2 O (bC (aV (iQ ((H4.f7).aS) ay O) (bC (aV (dR O O) (jE O O (je O (fun h3 => ?_) (fun h3 => ?_))))))))))))))
   ·(try simp only [Z] at h3)
    refine aP ?_
    have aaG := H4.drew
    have Dy := V.kp (aaG.f8.f8.f8.f8.f8.f8.f8.f8)
    refine yw [3, 5] Dy O (jB 0 O Dy O (kJ 1 O Dy O (gU 2 O Dy 1 dw O sizeOf37 O (jT 3 O Dy (fun W hW => kC kH O ((Kp.h hW).f8).get.2 O) (gU 4 O Dy 0 jk O dM O (jT 5 O Dy (fun W hW => kC ay O ((Kp.h hW).f6).get.2 O) (ji 6 O Dy (fun _ => iQ ((aaG.f7).aS) ay O) (ji 7 O Dy (fun _ => kU O O (by omega)) (oq 8 O (yN O func30 (EL aaG.f5)) ?_)))))))))
    rintro _ w5 ⟨rfl, H5⟩
    have BH := V.kp (H5.f8.f8.f8.f8.f8.f8.f8.f8)
    refine gV BH (by kernel_rfl) ?_
    refine ji 9 O BH (fun _ => dN O) (qU (aX (lS (aF (dH results75 O ?_)))))
    have hp : s.zA := by unfold dG.zA; omega
    exact ⟨by unfold dG.Hl; rw [if_pos hp], by unfold dG.Ho; rw [if_pos hp]; exact H5.f2.right.f2.right.f2.right.f2.right.f2.right.f2.right.f2⟩
   ·(try simp only [Z] at h3)
    refine gq (jL O (dH results75 O ?_))
    have hp : ¬ s.zA := by unfold dG.zA; omega
    exact ⟨by unfold dG.Hl; rw [if_neg hp], by unfold dG.Ho; rw [if_neg hp]; exact H4.right.right.right.right.f2.right.f2.right.f2⟩
  ·(try simp only [Z] at h2)
   refine bJ (bJ (bJ (bJ (bJ (bJ (iL O O (iJ (qF (gq (jL O (dH results75 O ?_)))))))))))
   have hp : ¬ s.zA := by unfold dG.zA; omega
   exact ⟨by unfold dG.Hl; rw [if_neg hp], by unfold dG.Ho; rw [if_neg hp]; exact H4.right.right.right.right.f2.right.f2.right.f2⟩
 ·(try simp only [Z] at h1)
  refine bJ (bJ (bJ (bJ (iL O O (bP O (bJ (bJ (bJ (bJ (bJ (bJ (iL O O (iJ (qF (gq (jL O (dH results75 O ?_)))))))))))))))))
  have hp : ¬ s.zA := by unfold dG.zA; omega
  exact ⟨by unfold dG.Hl; rw [if_neg hp], by unfold dG.Ho; rw [if_neg hp]; exact H4.right.right.right.right.f2.right.f2.right.f2⟩
theorem KZ (H : V w0 w F) : gJ prog 125 #[.string name] w fun v w' => v = .tuple #[.bool (decide (wJ name ∨ oV name)), .bool (decide (wJ name))] ∧ V w0 w' F := by
  refine iG func125 ntmps125 ?_
  refine iH (fV O (wu O (bT O (iJ (aY ?_)))))
  refine kS [(4, _)] (fun (_ : Unit) => [(5, .bool (decide (wJ name)))]) (fun (_ : Unit) W => V w0 W F) lG ?_ ?_
  · rintro _ w1 HJ
    dsimp only [List.cons_append, List.nil_append]
    refine bI O (fun h1 => ?_) (fun h1 => ?_)
    · (try simp only [Z] at h1)
      refine iH (fV O (fC O (aT (aF (LC results125 O O ?_)))))
      have ht : wJ name := by assumption
      exact ⟨by rw [decide_eq_true ht, decide_eq_true (Or.inl ht)], HJ⟩
    · (try simp only [Z] at h1)
      refine kS [] (fun (_ : Unit) => [(10, .bool (decide (oV name)))]) (fun (_ : Unit) W => V w0 W F) (Sub.nil _) ?_ ?_
      · rintro _ w2 HK
        dsimp only [List.cons_append, List.nil_append]
        refine bI O (fun h2 => ?_) (fun h2 => ?_)
        · (try simp only [Z] at h2)
          refine iH (fV O (fC O (aT (aF (LC results125 O O ?_)))))
          have ht : ¬ wJ name := by assumption
          have hc : oV name := by assumption
          exact ⟨by rw [decide_eq_false ht, decide_eq_true (Or.inr hc)], HK⟩
        · (try simp only [Z] at h2)
          refine bZ (aJ (aX (iH (fV O (fC O (LC results125 O O ?_))))))
          have ht : ¬ wJ name := by assumption
          have hc : ¬ oV name := by assumption
          exact ⟨by rw [decide_eq_false ht, decide_eq_false (fun h => h.elim ht hc)], HK⟩
      · skip
        refine iH (aV (fP O O) (gI O (bI O (fun h3 => ?_) (fun h3 => ?_))))
        · (try simp only [Z] at h3)
          refine bZ ?_
          refine dn (()) ?_ ?_ ?_
          · exact (Sub.jC O (by first | exact oU (beq_iff_eq.2 (by assumption)) (by unfold oV; first | exact .inl (by assumption) | exact .inr (.inl (by assumption)) | exact .inr (.inr (.inl (by assumption))) | exact .inr (.inr (.inr (.inl (by assumption)))) | exact .inr (.inr (.inr (.inr (by assumption))))) | exact congrArg Value.bool (by rw [Bool.eq_iff_iff, decide_eq_true_iff, beq_iff_eq]; unfold oV; exact ⟨fun h => .inr (.inr (.inr (.inr h))), fun h => by rcases h with h | h | h | h | h <;> first | exact h | exact absurd h (by assumption)⟩)) (Sub.nil _))
          · exact (Sub.nil _)
          · (try dsimp only)
            first | done | exact HJ
        · (try simp only [Z] at h3)
          refine iH (aV (fP O O) (gI O (bI O (fun h4 => ?_) (fun h4 => ?_))))
          · (try simp only [Z] at h4)
            refine bZ ?_
            refine dn (()) ?_ ?_ ?_
            · exact (Sub.jC O (by first | exact oU (beq_iff_eq.2 (by assumption)) (by unfold oV; first | exact .inl (by assumption) | exact .inr (.inl (by assumption)) | exact .inr (.inr (.inl (by assumption))) | exact .inr (.inr (.inr (.inl (by assumption)))) | exact .inr (.inr (.inr (.inr (by assumption))))) | exact congrArg Value.bool (by rw [Bool.eq_iff_iff, decide_eq_true_iff, beq_iff_eq]; unfold oV; exact ⟨fun h => .inr (.inr (.inr (.inr h))), fun h => by rcases h with h | h | h | h | h <;> first | exact h | exact absurd h (by assumption)⟩)) (Sub.nil _))
            · exact (Sub.nil _)
            · (try dsimp only)
              first | done | exact HJ
          · (try simp only [Z] at h4)
            refine iH (aV (fP O O) (gI O (bI O (fun h5 => ?_) (fun h5 => ?_))))
            · (try simp only [Z] at h5)
              refine bZ ?_
              refine dn (()) ?_ ?_ ?_
              · exact (Sub.jC O (by first | exact oU (beq_iff_eq.2 (by assumption)) (by unfold oV; first | exact .inl (by assumption) | exact .inr (.inl (by assumption)) | exact .inr (.inr (.inl (by assumption))) | exact .inr (.inr (.inr (.inl (by assumption)))) | exact .inr (.inr (.inr (.inr (by assumption))))) | exact congrArg Value.bool (by rw [Bool.eq_iff_iff, decide_eq_true_iff, beq_iff_eq]; unfold oV; exact ⟨fun h => .inr (.inr (.inr (.inr h))), fun h => by rcases h with h | h | h | h | h <;> first | exact h | exact absurd h (by assumption)⟩)) (Sub.nil _))
              · exact (Sub.nil _)
              · (try dsimp only)
                first | done | exact HJ
            · (try simp only [Z] at h5)
              refine iH (aV (fP O O) (gI O (bI O (fun h6 => ?_) (fun h6 => ?_))))
              · (try simp only [Z] at h6)
                refine bZ ?_
                refine dn (()) ?_ ?_ ?_
                · exact (Sub.jC O (by first | exact oU (beq_iff_eq.2 (by assumption)) (by unfold oV; first | exact .inl (by assumption) | exact .inr (.inl (by assumption)) | exact .inr (.inr (.inl (by assumption))) | exact .inr (.inr (.inr (.inl (by assumption)))) | exact .inr (.inr (.inr (.inr (by assumption))))) | exact congrArg Value.bool (by rw [Bool.eq_iff_iff, decide_eq_true_iff, beq_iff_eq]; unfold oV; exact ⟨fun h => .inr (.inr (.inr (.inr h))), fun h => by rcases h with h | h | h | h | h <;> first | exact h | exact absurd h (by assumption)⟩)) (Sub.nil _))
                · exact (Sub.nil _)
                · (try dsimp only)
                  first | done | exact HJ
              · (try simp only [Z] at h6)
                refine aC (aV (fP O O) (fV O (bM ?_)))
                refine dn (()) ?_ ?_ ?_
                · exact (Sub.jC O (by first | exact oU (beq_iff_eq.2 (by assumption)) (by unfold oV; first | exact .inl (by assumption) | exact .inr (.inl (by assumption)) | exact .inr (.inr (.inl (by assumption))) | exact .inr (.inr (.inr (.inl (by assumption)))) | exact .inr (.inr (.inr (.inr (by assumption))))) | exact congrArg Value.bool (by rw [Bool.eq_iff_iff, decide_eq_true_iff, beq_iff_eq]; unfold oV; exact ⟨fun h => .inr (.inr (.inr (.inr h))), fun h => by rcases h with h | h | h | h | h <;> first | exact h | exact absurd h (by assumption)⟩)) (Sub.nil _))
                · exact (Sub.nil _)
                · (try dsimp only)
                  first | done | exact HJ
  · skip
    refine iH (aV (fP O O) (gI O (bI O (fun h7 => ?_) (fun h7 => ?_))))
    · (try simp only [Z] at h7)
      refine bZ ?_
      refine dn (()) ?_ ?_ ?_
      · exact (Sub.jC O (by first | exact oU (beq_iff_eq.2 (by assumption)) (by unfold wJ; first | exact .inl (by assumption) | exact .inr (.inl (by assumption)) | exact .inr (.inr (.inl (by assumption))) | exact .inr (.inr (.inr (by assumption)))) | exact congrArg Value.bool (by rw [Bool.eq_iff_iff, decide_eq_true_iff, beq_iff_eq]; unfold wJ; exact ⟨fun h => .inr (.inr (.inr h)), fun h => by rcases h with h | h | h | h <;> first | exact h | exact absurd h (by assumption)⟩)) (Sub.nil _))
      · exact lG
      · (try dsimp only)
        first | done | exact H
    · (try simp only [Z] at h7)
      refine iH (aV (fP O O) (gI O (bI O (fun h8 => ?_) (fun h8 => ?_))))
      · (try simp only [Z] at h8)
        refine bZ ?_
        refine dn (()) ?_ ?_ ?_
        · exact (Sub.jC O (by first | exact oU (beq_iff_eq.2 (by assumption)) (by unfold wJ; first | exact .inl (by assumption) | exact .inr (.inl (by assumption)) | exact .inr (.inr (.inl (by assumption))) | exact .inr (.inr (.inr (by assumption)))) | exact congrArg Value.bool (by rw [Bool.eq_iff_iff, decide_eq_true_iff, beq_iff_eq]; unfold wJ; exact ⟨fun h => .inr (.inr (.inr h)), fun h => by rcases h with h | h | h | h <;> first | exact h | exact absurd h (by assumption)⟩)) (Sub.nil _))
        · exact lG
        · (try dsimp only)
          first | done | exact H
      · (try simp only [Z] at h8)
        refine iH (aV (fP O O) (gI O (bI O (fun h9 => ?_) (fun h9 => ?_))))
        · (try simp only [Z] at h9)
          refine bZ ?_
          refine dn (()) ?_ ?_ ?_
          · exact (Sub.jC O (by first | exact oU (beq_iff_eq.2 (by assumption)) (by unfold wJ; first | exact .inl (by assumption) | exact .inr (.inl (by assumption)) | exact .inr (.inr (.inl (by assumption))) | exact .inr (.inr (.inr (by assumption)))) | exact congrArg Value.bool (by rw [Bool.eq_iff_iff, decide_eq_true_iff, beq_iff_eq]; unfold wJ; exact ⟨fun h => .inr (.inr (.inr h)), fun h => by rcases h with h | h | h | h <;> first | exact h | exact absurd h (by assumption)⟩)) (Sub.nil _))
          · exact lG
          · (try dsimp only)
            first | done | exact H
        · (try simp only [Z] at h9)
          refine aC (aV (fP O O) (fV O (bM ?_)))
          refine dn (()) ?_ ?_ ?_
          · exact (Sub.jC O (by first | exact oU (beq_iff_eq.2 (by assumption)) (by unfold wJ; first | exact .inl (by assumption) | exact .inr (.inl (by assumption)) | exact .inr (.inr (.inl (by assumption))) | exact .inr (.inr (.inr (by assumption)))) | exact congrArg Value.bool (by rw [Bool.eq_iff_iff, decide_eq_true_iff, beq_iff_eq]; unfold wJ; exact ⟨fun h => .inr (.inr (.inr h)), fun h => by rcases h with h | h | h | h <;> first | exact h | exact absurd h (by assumption)⟩)) (Sub.nil _))
          · exact lG
          · (try dsimp only)
            first | done | exact H
end
end Go.Proofs.YtpdeedplgmbopaaGreatDoor
end
section
namespace Go.Proofs.YtpdeedplgmbopaaGreatDoor
open Go.RowKit Go.Lib
section
variable {P : Program} {L : List (Nat × Value)} {w0 w : World} {F : HP} {ty : TypeId} {b : Nat} {v d : Int} {t : TypeId}
theorem NV {u : Value} (hc : w.cell? ⟨b, 0, none⟩ = some u) (hz : w.frozen? ⟨b, 0, none⟩ = false) : (Extern.Atomic.storeT #[.pointer (some ⟨b, 0, none⟩), .int .i64 d]).run P w = .ok Extern.Atomic.none_ (w.setCell ⟨b, 0, none⟩ (.int .i64 d)) := by
  change Sem.run P (do store (← asAddr (.pointer (some ⟨b, 0, none⟩))) (.int .i64 d) .atomic; pure Extern.Atomic.none_) w = _
  simp [asAddr, run_store _ _ _ _ _ (rfl : (Value.int .i64 d).oneCell' = true), hc, hz, Result.andThen]
theorem Tv {f : FuncId} {args : List Operand} {ts : Array TypeId} {fn : Func} (H : V w0 w (dL b (.cells #[.int .i64 v] t (0, 0)) • F)) (ha : DN L args = some [.pointer (some ⟨b, 0, none⟩), .int .i64 d])
    (hf : P.funcs[f]? = some fn) (hname : (fn.name == "runtime.NumGoroutine") = false) (hb : fn.body.isNone = true) (hn : Extern.findNext fn = none) (he : Extern.find fn = some Extern.Atomic.storeT) :
    uz P L (.call ⟨.value (.func f), args.toArray, ts⟩) ty w fun u w' => V w0 w' (dL b (.cells #[.int .i64 d] t (0, 0)) • F) :=
  VK ha hf hname hb hn he (NV (jd H.get.2 rfl) (zH H.get.2)) (H.setCell (i := 0) _)
theorem Hr (H : V w0 w (dL b (.cells #[.int .i64 v] t (0, 0)) • F)) : gJ Tryz.prog 123 #[.pointer (some ⟨b, 0, none⟩), .int .i64 d] w fun u w' => V w0 w' (dL b (.cells #[.int .i64 d] t (0, 0)) • F) := by
 refine nT Tryz.func123 Tryz.ntmps123 ?_
 refine aC (nD O O (bD 0 Tryz.underlying161 O Tryz.sizeOf2 O (bP O (jv (Tv H O Tryz.func159 O O (by kernel_rfl) (by kernel_rfl)) ?_))))
 rintro _ w1 H1
 refine bM (lY (.inr O) Tryz.results123 ?_)
 exact H1
end
end Go.Proofs.YtpdeedplgmbopaaGreatDoor
end
section
namespace Go.Proofs.YtpdeedplgmbopaaGreatDoor
open Go.RowKit
open _root_.Go.Proofs.Tryz
section
variable {w0 w : World} {F : HP} {e : Nat} {s : dG}
theorem IL (H : V w0 w (gB e s • F)) (hi : s.inn = false) : gJ prog 70 #[.pointer (some ⟨e, 0, none⟩)] w fun v w' => ∃ q, v = .pointer (some ⟨q, 0, none⟩) ∧ V w0 w' (gB e s • F) := by
 refine iG func70 ntmps70 ?_
 refine jr O (aP (bT O (dY O func65 (oZ H) ?_)))
 rintro _ _ ⟨rfl, rfl⟩
 refine iJ (qF (gq (aP ?_)))
 obtain ⟨xQ, xR, xU, xW, xX, xY, xZ, yc, uN, su, sD, sF, sG, sH, sJ, sK, sN, sO, sQ, sS, iw, dF, lu, iI⟩ := (H).Gu
 have hwo := wO (iI.f11)
 simp only [List.all_cons, List.all_nil, Bool.and_true, Bool.and_eq_true] at hwo
 obtain ⟨o0, o1, o2, o3, o4, o5, o6, o7, o8, o9, oa⟩ := hwo
 have hon := (iI.f10).zQ
 have hpl : s.put.length ≤ 16384 := by have h9 := iw.2.2.2.2.1; unfold iE at h9; omega
 refine aC (nD O O (aV (eY ah O sizeOf82 O O (iI).get.2) (jv (fJ (l := [_, _, _, _, _, _, _, _, _, _, _, _, _, _, _, _, _, _, _, _, _, _, _, _, _, _, _, _, _, _, _, _, _, _]) iI zeroValue82 O) ?_)))
 rintro _ w3 ⟨b3, rfl, H3⟩
 refine aH (bU 0 (l' := [_, _, _, _, _, _, _, _, _, _, _, _, _, _, _, _, _, _, _, _, _, _, _, _, _, _, _, _, _, _, _, _, _, _]) (us := [_, _, _, _, _, _, _, _, _, _, _, _, _, _, _, _, _, _, _, _, _, _, _, _, _, _, _, _, _, _, _, _, _, _]) H3 sizeOf82 O O O (aA (aA (aA (aA (aA (aA (aA (aA (aA (aA (aA (aA (aA (aA (aA (aA (aA (aA (aA (aA (aA (aA (aA (aA (aA (aA (aA (aA (aA (aA (aA (aA (aA (aW (by first | rfl | exact Rd.one ((H3.f10).aS)) bF)))))))))))))))))))))))))))))))))) O O) ?_
 rintro _ w4 H4
 refine qR O (dJ O (bD 0 ah O aQ O (aV (nU 0 (xs := [_, _, _, _, _, _, _, _, _, _, _]) aG O aQ O O (H4.f2).get.2 O) (dY O func80 (Nl H4.f7.f7.f7.f7.f7) ?_))))
 rintro _ w5 ⟨qb5, qr5, qw5, qt5, qm5, rfl, H5⟩
 refine bD 0 ah O aQ O (aH (bU 0 (l' := [_, _, _, _, _, _, _, _, _, _, _, _, _, _, _, _, _, _, _, _, _, _, _, _, _, _, _, _, _, _, _, _, _, _]) (us := [_, _, _, _, _, _, _, _, _, _, _]) H5.f11 aQ O O O (aA (aA (aA (aA (aA (aA (aA (aA (aA (aA (aA bF))))))))))) O O) ?_)
 rintro _ w6 H6
 have ZY := H6.f5.right
 have Hd8 := ZY.f2.right
 have Hd9 := Hd8.f2.right
 have X8 := Hd9.f2.right
 have Ph := X8.f2.right
 refine pK (bT O (dJ O (bD 16 ah O aO O (fZ bK O (Ph.f7).get.2 O (je O (fun h => by exfalso; (try simp only [Z] at h); rw [hi] at h; simp at h) (fun h1 => ?_))))))
 (try simp only [Z] at h1)
 refine gq (bT O (dJ O (bD 11 ah O sizeOf78 O (fZ jM O (Ph.f7).get.2 O (dY O func109 (rG Ph.f8) ?_)))))
 rintro _ w12 ⟨q12, rfl, uI⟩
 refine bD 11 ah O sizeOf78 O (aH (eF 11 uI.f3 sizeOf78) ?_)
 rintro _ Pj xk
 have Yf := xk.f2.right
 refine qR O (dJ O (bD 33 ah O bH O (fZ aU O (Yf.f8).get.2 O (dY O func122 (zy Yf (fun W HW => (HW.f10).aS) hon (by omega)) ?_))))
 rintro u15 Sz yT
 refine bD 33 ah O bH O (aH (fA 33 (l' := [_, _, _, _, _, _, _, _, _, _, _, _, _, _, _, _, _, _, _, _, _, _, _, _, _, _, _, _, _, _, _, _, _, _]) yT.f2 bH O O (by first | rfl | exact Rd.one ((yT).aS)) O O) ?_)
 rintro _ w16 yO
 have Pm := yO.f2.right
 refine Xi (aV (dS (zl := [.int .i64 0]) (pl := [(0, 0), (0, 0), (0, 1)]) [_] underlying161 zeroValue161 O (fun w => by kernel_rfl) O (.zero (zs := []) O (.zero (zs := []) O (.zero (zs := [.int .i64 0]) O .nil))) O) (jv (iM (l := [_]) Pm O O) ?_))
 rintro _ XF ⟨b18, rfl, CV⟩
 refine bD 12 ah O sizeOf79 O (aH (eF 12 CV.f2 sizeOf79) ?_)
 rintro _ w19 D8
 refine pK ?_
 have La := D8.drew
 have zf := V.kp (La.f13.f13.f13.f13.f13.f13.f13.f13.f13.f13.f13.f13.f13)
 refine yw [1, 5] zf O (gU 0 O zf 12 ah O sizeOf79 O (jT 1 O zf (fun W hW => kC underlying79 O ((Kp.h hW)).get.2 O) (jB 2 O zf O (kJ 3 O zf O (gU 4 O zf 12 ah O sizeOf79 O (jT 5 O zf (fun W hW => kC underlying79 O ((Kp.h hW).f9).get.2 O) (oq 6 O (yN O func68 (mZ La.f10)) ?_)))))))
 rintro _ _ ⟨rfl, rfl⟩
 have Dk := V.kp (La.f13.f13.f13.f13.f13.f13.f13.f13.f13.f13.f13.f13.f13)
 refine dV Dk (fun W hW => (Kp.h hW).f13.f13.f13.f13.f13.f13.f13.f13.f13.f13.f13.f13.f13) ?_
 refine oq 7 O (yN O func123 (Hr La.f2)) ?_
 rintro _ w21 IC
 have Wn := V.kp (IC.f13.f13.f13.f13.f13.f13.f13.f13.f13.f13.f13.f13.f13)
 refine gV Wn (by kernel_rfl) ?_
 refine qU (aX (jL O (dH results70 O ?_)))
 have VI := IC.f13.f13.f13.f13.f7.f12.f12.f12.f12.f12.f13
 have VJ := V.iF (s := s) iw dF VI
 exact ⟨_, O, VJ.f2.right.f2.right⟩
end
def aaH (w0 : World) (name : ByteArray) (keys : List Int) (n : Int) (g : Bool) (s : dG) (M : VM) (Q : Int → dG → VM → Prop) : Prop := ∀ (F : HP) (W : World) (c m e : Nat) (kv lv : Value), V w0 W (VC c m e name kv n g lv s.c.pt • kW 21 .i32 lv s.c.L • oW m M • gB e s • F) → jq w0 F .i32 kv keys →
  gJ prog 124 #[.pointer (some ⟨c, 0, none⟩)] W fun v W' => ∃ x t M', Q x t M' ∧ v = .int .i64 x ∧ V w0 W' (VC c m e name kv n g lv s.c.pt • kW 21 .i32 lv s.c.L • oW m M' • gB e t • F)
def VM.did (M : VM) (name : ByteArray) (keys : List Int) (n x : Int) : VM := if (wJ name ∨ oV name) ∧ x = 0 then { M with name := name, keys := keys, n := n, typed := [] } else M
def dG.Wp (t : dG) (x : Int) : Int := if x = 0 then t.Ho.zU t.Hl else t.zU x
def dG.doS (t : dG) (x : Int) : dG := if x = 0 then t.Ho.BK t.Hl else t.BK x
def VM.doM (M M' : VM) (name : ByteArray) (keys : List Int) (n x r : Int) : VM := if r = 0 then M'.did name keys n x else M
section
variable {w0 w : World} {F : HP} {c m e : Nat} {s : dG} {name : ByteArray} {kv lv : Value} {keys : List Int} {n p x : Int} {g : Bool} {M M' : VM} {Q : Int → dG → VM → Prop}
theorem Lc (h : wJ name ∨ oV name) (hx : x = 0) : M.did name keys n x = { M with name := name, keys := keys, n := n, typed := [] } := if_pos ⟨h, hx⟩
theorem Cc (h : ¬ ((wJ name ∨ oV name) ∧ x = 0)) : M.did name keys n x = M := if_neg h
theorem Tz (H : V w0 w (VC c m e name kv n g lv s.c.pt • kW 21 .i32 lv s.c.L • oW m M • gB e s • F)) (hk : jq w0 F .i32 kv keys) (h1 : aaH w0 name keys n g s M Q) (hkl : keys.length * 4 ≤ 140737488355328) (hw : nZ name keys = 0) (hn : 1 ≤ n ∧ n ≤ 1000000) :
  gJ prog 74 #[.pointer (some ⟨c, 0, none⟩)] w fun v w' => ∃ x t M', Q x t M' ∧ v = .int .i64 x ∧ V w0 w' (VC c m e name kv n g lv s.c.pt • kW 21 .i32 lv s.c.L • oW m (M'.did name keys n x) • gB e t • F) := by
 refine iG func74 ntmps74 ?_
 refine jr O (bT O (dY O func124 (h1 _ _ _ _ _ _ _ H hk) ?_))
 rintro _ w1 ⟨x, t, M2, hQ, rfl, H1⟩
 refine wu O (bT O (dJ O (bD 2 dw O oD O (fZ kG O (H1).get.2 O (dY O func125 (KZ H1) ?_)))))
 rintro _ w2 ⟨rfl, H2⟩
 refine bP O (qQ O O (qQ O O (fV O (gI O (bT O (jF O (fun h1 => ?_) (fun h1 => ?_)))))))
 ·(try simp only [Z] at h1)
  refine bC (bP O (bC (aV (dR O O) (jE O O (je O (fun h2 => ?_) (fun h2 => ?_))))))
  ·(try simp only [Z] at h2)
   obtain ⟨Nu, Nv, Nw, wK, wW⟩ := (H2.f3).vm
   have hcg : wJ name ∨ oV name := by assumption
   have hx0 : x = 0 := by assumption
   have acq := wW.drew
   have uq := V.kp (acq.f7.f7.f7.f7.f7.f7.f7)
   refine yw [3, 7, 11, 16] uq O (jB 0 O uq O (kJ 1 O uq O (gU 2 O uq 0 dw O sizeOf41 O (jT 3 O uq (fun W hW => kC underlying41 O ((Kp.h hW).f5).get.2 O) (jB 4 O uq O (kJ 5 O uq O (gU 6 O uq 2 dw O oD O (jT 7 O uq (fun W hW => kC kG O ((Kp.h hW).f5).get.2 O) (jB 8 O uq O (kJ 9 O uq O (gU 10 O uq 3 dw O dM O (jT 11 O uq (fun W hW => kC ay O ((Kp.h hW).f5).get.2 O) (jB 13 O uq O (kJ 14 O uq O (gU 15 O uq 4 dw O aj O (jT 16 O uq (fun W hW => kC aK O ((Kp.h hW).f5).get.2 O) (oq 12 O (yN O func71 (pO acq (fun W HW => hk _ (HW.right.right.right.right.right.right.right)) (by omega))) ?_)))))))))))))))))
   rintro u4 w4 H4
   have xI := V.kp (H4.f8.f8.f8.f8.f8.f8.f8.f8)
   refine dV xI (fun W hW => (Kp.h hW).right.f7.f7.f7.f7.f7.f7.f7) ?_
   refine ji 17 O xI (fun _ => dS (zl := [.string .empty, .slice none 0 0, .int .i64 0, .slice none 0 0]) (pl := [(0, 1), (1, 1), (2, 1), (3, 1)]) [_, _, _, _] underlying117 zeroValue117 O (fun w => by kernel_rfl) O (.on (.one (Rd.one ((H4).aS)) (.on (.zero (zs := [.slice none 0 0]) O .nil)))) O) ?_
   refine kJ 18 O xI O (gU 19 O xI 3 fE O sizeOf117 O ?_)
   refine fO 20 O (by kernel_rfl) (bU 3 (l' := [_, _, _, _, _, _, _, _]) (us := [_, _, _, _]) H4.f2 sizeOf117 O O O (aA (aW (by first | rfl | exact Rd.one ((H4).aS)) (aA (aA bF)))) O O) ?_
   rintro _ w5 H5
   have BH := V.kp (H5.f8.f8.f8.f8.f8.f8.f8.f8)
   refine gV BH (by kernel_rfl) ?_
   have XT := H5.f2
   have XU := XT.oK
   have Ho8 := XU.f3.f3
   have Yh := V.aas (M := { M2 with name := name, keys := keys, n := n, typed := [] }) ⟨hkl, by show ([] : List Int).length ≤ 1024; decide, .inr ⟨hcg, hw, hn.1, hn.2⟩⟩ rfl Ho8
   refine qU (aX (bT O (fC O (dH results74 O ?_))))
   exact ⟨_, _, M2, hQ, O, by first | (rw [Lc hcg hx0]; exact Yh.f2.right.f2.right.f4.f2.f4.f4) | (rw [Cc (fun hc => absurd hc.2 (by assumption))]; exact Yh.f2.right.f2.right.f4.f2.f4.f4) | (rw [Cc (fun hc => absurd (decide_eq_true hc.1) (by simp only [*]; decide))]; exact Yh.f2.right.f2.right.f4.f2.f4.f4)⟩
  ·(try simp only [Z] at h2)
   refine gq (bT O (fC O (dH results74 O ?_)))
   exact ⟨_, _, M2, hQ, O, by first | (rw [Lc hcg hx0]; exact H2.f4.f4.f4.f4) | (rw [Cc (fun hc => absurd hc.2 (by assumption))]; exact H2.f4.f4.f4.f4) | (rw [Cc (fun hc => absurd (decide_eq_true hc.1) (by simp only [*]; decide))]; exact H2.f4.f4.f4.f4)⟩
 ·(try simp only [Z] at h1)
  refine bJ (bJ (iL O O (iJ (qF (gq (bT O (fC O (dH results74 O ?_))))))))
  exact ⟨_, _, M2, hQ, O, by first | (rw [Lc hcg hx0]; exact H2.f4.f4.f4.f4) | (rw [Cc (fun hc => absurd hc.2 (by assumption))]; exact H2.f4.f4.f4.f4) | (rw [Cc (fun hc => absurd (decide_eq_true hc.1) (by simp only [*]; decide))]; exact H2.f4.f4.f4.f4)⟩
theorem JI (s : dG) (h : lT s) : 1 ≤ max s.count 1 ∧ max s.count 1 ≤ 1000000 := by
  have h := h.2.2.1
  unfold dG.count
  dsimp only
  by_cases h1 : s.given = true <;> by_cases h2 : s.arg < 0 <;> by_cases h3 : s.minus = true <;> simp only [h1, h2, h3, if_true, if_false, Bool.false_eq_true] <;> omega
theorem Wq (H : V w0 w (gB e s • F)) : lT s := by
  obtain ⟨pb, pr, pw, pt, pm, ph, bl, pv, es, u0, u1, u2, u3, u4, u5, u6, u7, u8, u9, ua, h, _⟩ := H.Gu
  exact h
theorem Yi (H : V w0 w (oW m M • gB e s • F)) (hi : s.inn = false) (hk : jq w0 F .i32 kv keys) (hkl : keys.length * 4 ≤ 140737488355328) (hw : nZ name keys = 0) (hone : aaH w0 name keys (max s.jZ.count 1) s.jZ.given s.jZ M Q) :
  gJ prog 24 #[.pointer (some ⟨m, 0, none⟩), .pointer (some ⟨e, 0, none⟩), .string name, kv] w fun v w' => ∃ x t M', Q x t M' ∧ v = .int .i64 (t.Wp x) ∧ V w0 w' (oW m (M.doM M' name keys (max s.jZ.count 1) x (t.Wp x)) • gB e (t.doS x) • F) := by
 refine abe func24 ntmps24 ?_
 refine jr O (aP (aY (bT O (dY O func69 (Ac H) ?_))))
 rintro _ _ ⟨rfl, rfl⟩
 refine bP O (bC (bP O (bC (dY O func70 (IL H.f2 hi) ?_))))
 rintro _ w2 ⟨cl2, rfl, H2⟩
 refine bC (aV (iR kH O O) (iL O O (gI O (Jp O (fun h1 => ?_)))))
 (try simp only [Z] at h1)
 refine bT O (bP O (dY O func16 (BQ H2 (fun W HW => hk _ (HW.right.right))) ?_))
 rintro _ w3 ⟨rfl, H3⟩
 refine aV (dR O O) (gI O (bI O (fun h => by exfalso; (try simp only [Z] at h); rw [hw] at h; exact absurd h (by decide)) (fun h2 => ?_)))
 (try simp only [Z] at h2)
 refine bT O (bP O (dY O func16 (BQ H3 (fun W HW => hk _ (HW.right.right))) ?_))
 rintro _ w4 ⟨rfl, H4⟩
 refine aV (iU O O) (gI O (bI O (fun h => by exfalso; (try simp only [Z] at h); exact h hw) (fun h3 => ?_)))
 (try simp only [Z] at h3)
 refine bZ (aJ (aX (aP (bT O (dY O func29 (Du H4) ?_)))))
 rintro _ w5 ⟨rfl, H5⟩
 refine gI O (bT O (aV (iU O O) (je O (fun h => by exfalso; (try simp only [Z] at h); exact h (by unfold dG.BJ; rw [if_neg (by simp [hi])])) (fun h4 => ?_))))
 (try simp only [Z] at h4)
 refine gq (bT O (dY O func38 (KQ H5.f2) ?_))
 rintro _ w6 ⟨c6, rfl, H6⟩
 have hco := JI s.jZ (Wq H6.f3)
 refine gI O (bT O (jG O O (bP O (dY O func71 (pO H6 (fun W HW => hk _ (HW.right.right.right)) (by omega)) ?_))))
 rintro u7 w7 H7
 refine bP O (dY O func72 (KR H7.f4) ?_)
 rintro _ w8 ⟨rfl, H8⟩
 refine aV (Uh O O) (bP O (dY O func73 (KT H8) ?_))
 rintro _ w9 ⟨rfl, H9⟩
 refine aV (dS (zl := [.pointer none, .pointer none, .string .empty, .slice none 0 0, .int .i64 0, .bool false, .slice none 0 0, .int .i64 0]) (pl := [(0, 1), (1, 1), (2, 1), (3, 1), (4, 1), (5, 1), (6, 1), (7, 1)]) [_, _, _, _, _, _, _, _] dw zeroValue130 O (fun w => by kernel_rfl) O (.on (.on (.on (.one (Rd.one ((H9.f2).aS)) (.on (.on (.zero (zs := [.slice none 0 0]) O (.zero (zs := [.int .i64 0]) O .nil)))))))) O) ?_
 refine jv (iM (l := [_, _, _, _, _, _, _, _]) H9 O O) ?_
 rintro _ w10 ⟨b10, rfl, ql⟩
 refine gI O (bT O (dY O func28 (Ad ql.f2) ?_))
 rintro _ EH ⟨u11, rfl, rF⟩
 refine jv (fJ (l := [_, _, _]) rF zeroValue46 O) ?_
 rintro _ w12 ⟨b12, rfl, uI⟩
 refine aH (bU 0 (l' := [_, _, _]) (us := [_, _, _]) uI sizeOf46 O O O (aW (by first | rfl | exact Rd.one ((uI.f2).aS)) (aA (aA bF))) O O) ?_
 rintro _ Pj xk
 refine pK ?_
 have Qh := xk.drew
 have vH := V.kp (Qh.f4.right.f6.f6.f6.f6.f6.f6)
 refine yw [3, 5] vH O (jB 0 O vH O (jB 1 O vH O (gU 2 O vH 0 jk O dM O (jT 3 O vH (fun W hW => kC ay O ((Kp.h hW)).get.2 O) (gU 4 O vH 1 jk O aj O (jT 5 O vH (fun W hW => kC aK O ((Kp.h hW)).get.2 O) (kJ 6 O vH O (gU 7 O vH 6 dw O dM O ?_))))))))
 refine fO 8 O (by kernel_rfl) (fA 6 (l' := [_, _, _, _, _, _, _, _]) Qh.f4 dM O O (by first | rfl | exact Rd.one ((Qh.f2).aS)) O O) ?_
 rintro _ RZ Ar
 have Df := V.kp (Ar.f7.f7.f7.f7.f7.f7.f7)
 refine dV Df (fun W hW => (Kp.h hW).right.f6.f6.f6.f6.f6.f6) ?_
 refine kJ 9 O Df O (gU 10 O Df 7 dw O aj O ?_)
 refine fO 11 O (by kernel_rfl) (fA 7 (l' := [_, _, _, _, _, _, _, _]) Ar aj O O (by first | rfl | assumption) O O) ?_
 rintro _ Sz yT
 have uU := V.kp (yT.f7.f7.f7.f7.f7.f7.f7)
 refine gV uU (by kernel_rfl) ?_
 refine qU (aX (bT O (dY O func74 (Tz yT.f4.f7.f5.f4 (fun W HW => (HW.f2).aS) hone hkl hw hco) ?_)))
 rintro _ w16 ⟨x, t, M2, hQ, rfl, yO⟩
 refine wu O (bT O (aV (dR O O) (je O (fun h5 => ?_) (fun h5 => ?_))))
 ·(try simp only [Z] at h5)
  have hx : x = 0 := h5
  refine aC (bP O (dY O func75 (KY yO.f4.f2) ?_))
  rintro _ Za ⟨rfl, Io⟩
  refine wu O (bT O (bP O (dY O func31 (Cb Io.f2) ?_)))
  rintro _ XF ⟨rfl, CV⟩
  refine gI O (bT O (aV (iU O O) (je O (fun h6 => ?_) (fun h6 => ?_))))
  ·(try simp only [Z] at h6)
   obtain ⟨Nu, Nv, Nw, wK, wW⟩ := (CV.f4).vm
   obtain ⟨acr, acs, acu, Qi, Dz⟩ := (wW.f10).vm
   refine aC (jG O O (dJ O (aV (eY fE O sizeOf119 O O (Dz).get.2) (dJ O (aH (bU 0 (l' := [_, _, _, _, _, _, _, _]) (us := [_, _, _, _, _, _, _, _]) Dz.f5 sizeOf119 O O O (aA (aA (aA (aA (aW (by first | rfl | exact Rd.one ((Dz.f3).jy)) (aA (aW (by first | rfl | exact Rd.one ((Dz.f4).jy)) (aA bF)))))))) O O) ?_)))))
   rintro _ w21 IC
   have ad8 := IC.f5.f5.f5.f4
   have Yj := V.Bo (M := M) Qi ad8
   refine qR O (fC O (dH results24 O ?_))
   refine ⟨x, t, M2, hQ, by unfold dG.Wp; first | rw [if_pos hx] | rw [if_neg hx], ?_⟩
   unfold VM.doM dG.Wp dG.doS
   first | (rw [if_pos hx, if_pos hx, if_pos (by assumption)]; exact Yj.f2.right.f2.right.f2.right.f2.right.f3.right.f3.right.f3.right.f3.right.f2.f2) | (rw [if_pos hx, if_pos hx, if_neg (by assumption)]; exact Yj.f2.right.f2.right.f2.right.f2.right.f3.right.f3.right.f3.right.f3.right.f2.f2) | (rw [if_neg hx, if_neg hx, if_pos (by assumption)]; exact Yj.f2.right.f2.right.f2.right.f2.right.f3.right.f3.right.f3.right.f3.right.f2.f2) | (rw [if_neg hx, if_neg hx, if_neg (by assumption)]; exact Yj.f2.right.f2.right.f2.right.f2.right.f3.right.f3.right.f3.right.f3.right.f2.f2)
  ·(try simp only [Z] at h6)
   refine gq (bT O (fC O (dH results24 O ?_)))
   refine ⟨x, t, M2, hQ, by unfold dG.Wp; first | rw [if_pos hx] | rw [if_neg hx], ?_⟩
   unfold VM.doM dG.Wp dG.doS
   first | (rw [if_pos hx, if_pos hx, if_pos (by assumption)]; exact CV.f2.right.f2.right.f3.right.f3.right.f3.right.f2) | (rw [if_pos hx, if_pos hx, if_neg (by assumption)]; exact CV.f2.right.f2.right.f3.right.f3.right.f3.right.f2) | (rw [if_neg hx, if_neg hx, if_pos (by assumption)]; exact CV.f2.right.f2.right.f3.right.f3.right.f3.right.f2) | (rw [if_neg hx, if_neg hx, if_neg (by assumption)]; exact CV.f2.right.f2.right.f3.right.f3.right.f3.right.f2)
 ·(try simp only [Z] at h5)
  have hx : ¬ x = 0 := h5
  refine gq (aP (bT O (bP O (dY O func31 (Cb yO.f4) ?_))))
  rintro _ w24 ⟨rfl, Xj⟩
  refine gI O (bT O (aV (iU O O) (je O (fun h7 => ?_) (fun h7 => ?_))))
  ·(try simp only [Z] at h7)
   obtain ⟨Nu, Nv, Nw, wK, wW⟩ := (Xj.f4).vm
   obtain ⟨acr, acs, acu, Qi, Dz⟩ := (wW.f10).vm
   refine aC (jG O O (dJ O (aV (eY fE O sizeOf119 O O (Dz).get.2) (dJ O (aH (bU 0 (l' := [_, _, _, _, _, _, _, _]) (us := [_, _, _, _, _, _, _, _]) Dz.f5 sizeOf119 O O O (aA (aA (aA (aA (aW (by first | rfl | exact Rd.one ((Dz.f3).jy)) (aA (aW (by first | rfl | exact Rd.one ((Dz.f4).jy)) (aA bF)))))))) O O) ?_)))))
   rintro _ w27 NG
   have aaf := NG.f5.f5.f5.f4
   have SK := V.Bo (M := M) Qi aaf
   refine qR O (fC O (dH results24 O ?_))
   refine ⟨x, t, M2, hQ, by unfold dG.Wp; first | rw [if_pos hx] | rw [if_neg hx], ?_⟩
   unfold VM.doM dG.Wp dG.doS
   first | (rw [if_pos hx, if_pos hx, if_pos (by assumption)]; exact SK.f2.right.f2.right.f2.right.f2.right.f3.right.f3.right.f3.right.f3.right.f2.f2) | (rw [if_pos hx, if_pos hx, if_neg (by assumption)]; exact SK.f2.right.f2.right.f2.right.f2.right.f3.right.f3.right.f3.right.f3.right.f2.f2) | (rw [if_neg hx, if_neg hx, if_pos (by assumption)]; exact SK.f2.right.f2.right.f2.right.f2.right.f3.right.f3.right.f3.right.f3.right.f2.f2) | (rw [if_neg hx, if_neg hx, if_neg (by assumption)]; exact SK.f2.right.f2.right.f2.right.f2.right.f3.right.f3.right.f3.right.f3.right.f2.f2)
  ·(try simp only [Z] at h7)
   refine gq (bT O (fC O (dH results24 O ?_)))
   refine ⟨x, t, M2, hQ, by unfold dG.Wp; first | rw [if_pos hx] | rw [if_neg hx], ?_⟩
   unfold VM.doM dG.Wp dG.doS
   first | (rw [if_pos hx, if_pos hx, if_pos (by assumption)]; exact Xj.f2.right.f2.right.f3.right.f3.right.f3.right.f2) | (rw [if_pos hx, if_pos hx, if_neg (by assumption)]; exact Xj.f2.right.f2.right.f3.right.f3.right.f3.right.f2) | (rw [if_neg hx, if_neg hx, if_pos (by assumption)]; exact Xj.f2.right.f2.right.f3.right.f3.right.f3.right.f2) | (rw [if_neg hx, if_neg hx, if_neg (by assumption)]; exact Xj.f2.right.f2.right.f3.right.f3.right.f3.right.f2)
end
end Go.Proofs.YtpdeedplgmbopaaGreatDoor
end
section
namespace Go.Proofs.YtpdeedplgmbopaaGreatDoor
open Go.RowKit Go.Lib
def Yk : ByteArray := ⟨#[40, 91, 123, 41, 93, 125]⟩
def NW : ByteArray := ⟨#[41, 93, 125]⟩
def NY : ByteArray := ⟨#[40, 91, 123]⟩
def yI (r : Int) : Int := if r = 40 then 0 else if r = 91 then 1 else if r = 123 then 2 else if r = 41 then 3 else if r = 93 then 4 else 5
theorem FD {r : Int} (h : vC r = true) : r = 40 ∨ r = 91 ∨ r = 123 ∨ r = 41 ∨ r = 93 ∨ r = 125 := by unfold vC at h; simp at h; omega
theorem Rt {r : Int} : r ∈ Ec Yk ↔ vC r = true := by
  rw [show Ec Yk = [40, 91, 123, 41, 93, 125] from by rfl]
  unfold vC; simp; omega
theorem aaI {r : Int} (h : vC r = true) : indexByte Yk.data.toList (r % 256).toNat.toUInt8 = yI r := by
  rcases FD h with rfl | rfl | rfl | rfl | rfl | rfl <;> rfl
theorem Ws (r : Int) : 0 ≤ yI r ∧ yI r ≤ 5 := by
  unfold yI
  repeat' split
  all_goals omega
theorem FH {r : Int} (h : vC r = true) (hk : yI r < 3) : sb NW (yI r % 3).toNat = Eb r ∧ Dl r = 1 := by
  rcases FD h with rfl | rfl | rfl | rfl | rfl | rfl <;> first | exact ⟨rfl, rfl⟩ | exact absurd hk (by decide)
theorem FI {r : Int} (h : vC r = true) (hk : 3 ≤ yI r) : sb NY (yI r - 3).toNat = Eb r ∧ Dl r = -1 := by
  rcases FD h with rfl | rfl | rfl | rfl | rfl | rfl <;> first | exact ⟨rfl, rfl⟩ | exact absurd hk (by decide)
theorem Yl (r : Int) : Dl r = 1 ∨ Dl r = -1 := by unfold Dl; split <;> simp
theorem Ym {r : Int} (h : vC r = true) : Eb r ≠ r := by rcases FD h with rfl | rfl | rfl | rfl | rfl | rfl <;> decide
theorem Yn (i : Nat) : 0 ≤ sb NW i ∧ sb NW i < 128 := Zb (by decide) i
theorem Yo (i : Nat) : 0 ≤ sb NY i ∧ sb NY i < 128 := Zb (by decide) i
def wP (a b d x : Int) : Int := d + (if x = a then 1 else 0) - (if x = b then 1 else 0)
theorem TA {a b d x : Int} (h : wP a b d x = 0) : GH a b d x = none := if_pos h
theorem Wu {a b d x : Int} (h : ¬ wP a b d x = 0) : GH a b d x = some (wP a b d x) := if_neg h
theorem Yp {a b d x : Int} (h : x = a) (hab : b ≠ a) : wP a b d x = d + 1 := by unfold wP; rw [if_pos h, if_neg (by omega)]; omega
theorem Yq {a b d x : Int} (h : ¬ x = a) (hb : x = b) : wP a b d x = d - 1 := by unfold wP; rw [if_neg h, if_pos hb]; omega
theorem Yr {a b d x : Int} (h : ¬ x = a) (hb : ¬ x = b) : wP a b d x = d := by unfold wP; rw [if_neg h, if_neg hb]; omega
theorem Wv (a b d x : Int) : d - 1 ≤ wP a b d x ∧ wP a b d x ≤ d + 1 := by unfold wP; split <;> split <;> omega
section
variable {l : List Int} {x i j : Int}
theorem NZ (h : (l.length : Int) ≤ jY (fun r => !vC r) l x) : wH l x = (0, false, false) := if_pos h
theorem Bz (e : jY (fun r => !vC r) l x = i) (h : i < l.length) (hs : pW (Dl (l.getD i.toNat 0)) (GH (l.getD i.toNat 0) (Eb (l.getD i.toNat 0))) l 0 i = none) : wH l x = (0, false, false) := by
  unfold wH; rw [e, if_neg (by omega), hs]
theorem IQ (e : jY (fun r => !vC r) l x = i) (h : i < l.length) (hs : pW (Dl (l.getD i.toNat 0)) (GH (l.getD i.toNat 0) (Eb (l.getD i.toNat 0))) l 0 i = some j) : wH l x = (j, true, true) := by
  unfold wH; rw [e, if_neg (by omega), hs]
end
section
variable {w0 w : World} {F : HP} {v : Value} {l : List Int} {x n key c r : Int} {s : ByteArray}
theorem TB (h : vC r = true) : gJ Tryz.prog 98 #[.string ⟨#[40, 91, 123, 41, 93, 125]⟩, .int .u8 (r % 256)] w fun v w' => v = .int .i64 (yI r) ∧ w = w' := Dn.mono fun v w' h2 => ⟨h2.1.trans (congrArg (Value.int .i64) (aaI h)), h2.2⟩
theorem Ld (H : V w0 w F) (hr : jq w0 F .i32 v l) (hx : 0 ≤ x ∧ x ≤ l.length) (Vm : l.length ≤ 4611686018427387904) : gJ Tryz.prog 43 #[v, .int .i64 x] w fun u w' => u = PN (wH l x) ∧ V w0 w' F := by
 refine nT Tryz.func43 Tryz.ntmps43 ?_
 refine iH (fV O (fV O (wu O (bT O (gI O (aY ?_))))))
 refine fF [(0, _)] (fun (i : Int) => [(7, .int .i64 i)]) (fun (i : Int) W => ((0 ≤ i ∧ i ≤ l.length) ∧ jY (fun r => !vC r) l i = jY (fun r => !vC r) l x) ∧ V w0 W F) (fun (i : Int) => (l.length - i).toNat) (x) lG lG ⟨⟨hx, O⟩, H⟩ ?_
 rintro i w1 ⟨⟨hi, hE⟩, HL⟩
 dsimp only [List.cons_append, List.nil_append]
 refine aP (bT O (bP O (aV (iQ (hr _ (HL)) ay O) (aV (gY O O) (je O (fun h1 => ?_) (fun h1 => ?_))))))
 ·(try simp only [Z] at h1)
  refine gq (aP (aY (aP (bT O (bP O ?_)))))
  obtain ⟨bv, ov, cv, ev⟩ := fB.pJ (hr _ (HL)) (by omega)
  cases ev
  refine aV (dD ay bQ O O (by omega)) ?_
  refine aV (eG (bY aZ O) O (by first | exact fB.kX (hr _ (HL)) (by omega) | exact fB.uQ (hr _ (HL)) (by omega) | exact fB.uG (hr _ (HL)) (by omega))) ?_
  refine dY O Tryz.func50 (Dp (s := Yk) (by decide)) ?_
  rintro _ _ ⟨rfl, rfl⟩
  refine aV (kT O) (je O (fun h2 => ?_) (fun h2 => ?_))
  ·(try simp only [Z] at h2)
   have hno : vC (l.getD i.toNat 0) = false := by have h9 := h2; rw [← Bool.not_eq_true, ← Rt]; simpa using h9
   refine dB (aI (bf (aX (aC (bP O (aV (fQ O O (by omega)) (fV O (bM ?_))))))))
   refine dK (i + 1) ?_ ?_ ?_ ?_
   ·exact lG
   ·exact lG
   ·(try dsimp only)
    first | done | exact ⟨⟨by omega, (qy hi.1 (by omega) (by show (!vC _) = true; rw [hno]; rfl)).symm.trans hE⟩, HL⟩
   ·(try dsimp only); omega
  ·(try simp only [Z] at h2)
   have hbr : vC (l.getD i.toNat 0) = true := by have h9 := h2; rw [← Rt]; simpa using h9
   have hR : jY (fun r => !vC r) l x = i := hE.symm.trans (kV hi.1 (by omega) (by show ¬ (!vC _) = true; rw [hbr]; decide))
   have hkb := Ws (l.getD i.toNat 0)
   refine gq (bT O (bP O (aV (dD ay bQ O O (by omega)) ?_)))
   refine aV (eG (bY aZ O) O (by first | exact fB.kX (hr _ (HL)) (by omega) | exact fB.uQ (hr _ (HL)) (by omega) | exact fB.uG (hr _ (HL)) (by omega))) ?_
   refine aV (JA O (by rw [Tryz.underlying21]; rfl) Tryz.underlying5) ?_
   refine dY O Tryz.func98 (TB hbr) ?_
   rintro _ _ ⟨rfl, rfl⟩
   refine wu O ?_
   have aaJ := HL.drew
   have Ht := V.kp (aaJ)
   refine yw [2] Ht O (jB 0 O Ht O ?_)
   refine ji 1 O Ht (fun _ => YP O O (by omega) (by  omega)) ?_
   refine jT 2 O Ht (fun W hW => EK kG O O (by exact ⟨by omega, by show _ < (3 : Int); omega⟩)) ?_
   refine ji 3 O Ht (fun _ => yL O (by rw [Tryz.underlying5]; rfl) aZ (Fz (by have := Yn (yI (l.getD i.toNat 0) % 3).toNat; show -2147483648 ≤ sb NW _ ∧ sb NW _ < 2147483648; omega))) ?_
   refine ji 4 O Ht (fun _ => dN O) (ji 5 O Ht (fun _ => dN O) (qU (aX ?_)))
   refine kS [(0, _), (7, _)] (fun (_ : Unit) => [(9, .int .i64 (Dl (l.getD i.toNat 0))), (10, .int .i32 (Eb (l.getD i.toNat 0)))]) (fun (_ : Unit) W => V w0 W F) qG ?_ ?_
   ·rintro _ w4 HJ
    dsimp only [List.cons_append, List.nil_append]
    have hst := Yl (l.getD i.toNat 0)
    have hne := Ym hbr
    refine jr O (aP (bT O (gI O (aY ?_))))
    have hmi := Ed (n := l.length) (i := i) hst (by omega) (by omega)
    refine fF [(0, _), (7, _), (9, _), (10, _)] (fun (⟨j, d⟩ : Int × Int) => [(11, .int .i64 d), (12, .int .i64 j)]) (fun (⟨j, d⟩ : Int × Int) W => ((-1 ≤ j ∧ j ≤ l.length) ∧ (d + Bl (Dl (l.getD i.toNat 0)) l.length j ≤ l.length + 1 ∧ Bl (Dl (l.getD i.toNat 0)) l.length j - d ≤ l.length + 1) ∧ pW (Dl (l.getD i.toNat 0)) (GH (l.getD i.toNat 0) (Eb (l.getD i.toNat 0))) l 0 i = pW (Dl (l.getD i.toNat 0)) (GH (l.getD i.toNat 0) (Eb (l.getD i.toNat 0))) l d j) ∧ V w0 W F) (fun (⟨j, d⟩ : Int × Int) => (Bl (Dl (l.getD i.toNat 0)) l.length j).toNat) ((i, 0)) J6 qG ⟨⟨by omega, by omega, O⟩, HJ⟩ ?_
    rintro ⟨j, d⟩ w5 ⟨⟨hj, hd, hF⟩, HM⟩
    dsimp only [List.cons_append, List.nil_append]
    have hms := GL (n := l.length) (i := j) hst
    have hmp := fun h0 h1 => Ed (n := l.length) (i := j) hst h0 h1
    have hdb := Wv (l.getD i.toNat 0) (Eb (l.getD i.toNat 0)) d (l.getD j.toNat 0)
    refine aP (bT O (aV (ku O O) (jF O (fun h3 => ?_) (fun h3 => ?_))))
    ·(try simp only [Z] at h3)
     refine bC (bP O (bC (bP O (bC (aV (nI ay O) (bC (aV (gY O O) (jE O O (je O (fun h4 => ?_) (fun h4 => ?_))))))))))
     ·(try simp only [Z] at h4)
      refine gq (aP (aY ?_))
      refine kS [(0, _), (7, _), (9, _), (10, _), (12, _), (46, _), (47, _), (48, _), (49, _)] (fun (_ : Unit) => [(11, .int .i64 (wP (l.getD i.toNat 0) (Eb (l.getD i.toNat 0)) d (l.getD j.toNat 0)))]) (fun (_ : Unit) W => V w0 W F) (Sub.cons O (Sub.cons O (Sub.cons O TW))) ?_ ?_
      ·rintro _ w6 HK
       dsimp only [List.cons_append, List.nil_append]
       refine bT O (aV (dR O O) (je O (fun h5 => ?_) (fun h5 => ?_)))
       ·(try simp only [Z] at h5)
        have hd0 : wP (l.getD i.toNat 0) (Eb (l.getD i.toNat 0)) d (l.getD j.toNat 0) = 0 := h5
        refine bT O (fV O (fV O (fC O (aT (aF (aF (aT (aF (aT (aF (aF (aT (aF ?_)))))))))))))
        refine gX (.inl O) Tryz.results43 O O O ?_
        exact ⟨by rw [IQ hR (by omega) (hF.trans (AB (by omega) (by omega) (TA hd0)))]; rfl, HK⟩
       ·(try simp only [Z] at h5)
        have hd0 : ¬ wP (l.getD i.toNat 0) (Eb (l.getD i.toNat 0)) d (l.getD j.toNat 0) = 0 := h5
        refine bZ (aJ (aX (aC (jG O O (aV (fQ O O (by omega)) (fV O (bM ?_)))))))
        refine dK (_, _) qG J6 (by (try dsimp only); exact ⟨⟨by omega, by omega, hF.trans (Gz hst (by omega) (by omega) (Wu hd0))⟩, HK⟩) ?_
        ·(try dsimp only); have := hmp (by omega) (by omega); omega
      ·skip
       refine aP ?_
       have hmq := hmp (by omega) (by omega)
       refine aC (jG O O (aV (dD ay bQ O O (by omega)) ?_))
       refine aV (eG (bY aZ O) O (by first | exact fB.kX (hr _ (HM)) (by omega) | exact fB.uQ (hr _ (HM)) (by omega) | exact fB.uG (hr _ (HM)) (by omega))) ?_
       refine iJ (aY (bT O (bP O (aV (dD ay bQ O O (by omega)) ?_))))
       refine aV (eG (bY aZ O) O (by first | exact fB.kX (hr _ (HM)) (by omega) | exact fB.uQ (hr _ (HM)) (by omega) | exact fB.uG (hr _ (HM)) (by omega))) ?_
       refine aV (dR O O) (gI O (bI O (fun h6 => ?_) (fun h6 => ?_)))
       ·(try simp only [Z] at h6)
        have ha : l.getD j.toNat 0 = l.getD i.toNat 0 := h6
        have hdN := Yp (d := d) ha hne
        refine aC (bP O (aV (fQ O O (by omega)) (fV O (bM (aJ ?_)))))
        refine dn (()) ?_ ?_ ?_
        ·exact (Sub.jC O (by rw [hdN]) (Sub.nil _))
        ·exact (Sub.cons O (Sub.cons O (Sub.cons O TW)))
        ·(try dsimp only)
         first | done | exact HM
       ·(try simp only [Z] at h6)
        have ha : ¬ l.getD j.toNat 0 = l.getD i.toNat 0 := h6
        refine bT O (aV (dR O O) (gI O (bI O (fun h7 => ?_) (fun h7 => ?_))))
        ·(try simp only [Z] at h7)
         have hdN := Yq (d := d) ha h7
         refine aC (bP O (aV (kU O O (by omega)) (fV O (bM (aJ ?_)))))
         refine dn (()) ?_ ?_ ?_
         ·exact (Sub.jC O (by rw [hdN]) (Sub.nil _))
         ·exact (Sub.cons O (Sub.cons O (Sub.cons O TW)))
         ·(try dsimp only)
          first | done | exact HM
        ·(try simp only [Z] at h7)
         have hdN := Yr (d := d) ha h7
         refine bZ (aJ ?_)
         refine dn (()) ?_ ?_ ?_
         ·exact (Sub.jC O (by rw [hdN]) (Sub.nil _))
         ·exact (Sub.cons O (Sub.cons O (Sub.cons O TW)))
         ·(try dsimp only)
          first | done | exact HM
     ·(try simp only [Z] at h4)
      refine dB (aI (aI (bf (aX (iH (fV O (fV O (fC O (aT (aF (aF (aT (aF ?_)))))))))))))
      refine gX (.inl O) Tryz.results43 O O O ?_
      exact ⟨by rw [Bz hR (by omega) (hF.trans (AA (by omega)))]; rfl, HM⟩
    ·(try simp only [Z] at h3)
     refine bJ (bJ (bJ (bJ (iL O O (iJ (qF (dB (aI (aI (bf (aX (iH (fV O (fV O (fC O (aT (aF (aF (aT (aF ?_))))))))))))))))))))
     refine gX (.inl O) Tryz.results43 O O O ?_
     exact ⟨by rw [Bz hR (by omega) (hF.trans (AA (by omega)))]; rfl, HM⟩
   ·skip
    refine bT O (aV (ku O O) (je O (fun h8 => ?_) (fun h8 => ?_)))
    ·(try simp only [Z] at h8)
     have hk3 : 3 ≤ yI (l.getD i.toNat 0) := h8
     have acv := aaJ.drew
     have Hu := V.kp (acv)
     refine yw [2] Hu O (jB 0 O Hu O (ji 1 O Hu (fun _ => kU O O (by omega)) ?_))
     refine jT 2 O Hu (fun W hW => EK kG O O (by exact ⟨by omega, by show _ < (3 : Int); omega⟩)) ?_
     refine ji 3 O Hu (fun _ => yL O (by rw [Tryz.underlying5]; rfl) aZ (Fz (by have := Yo (yI (l.getD i.toNat 0) - 3).toNat; show -2147483648 ≤ sb NY _ ∧ sb NY _ < 2147483648; omega))) ?_
     refine ji 4 O Hu (fun _ => dN O) (ji 5 O Hu (fun _ => dN O) (qU ?_))
     refine dn (()) ?_ ?_ ?_
     ·exact (Sub.jC O (by first | exact congrArg (Value.int .i64) (FH hbr (by assumption)).2.symm | exact congrArg (Value.int .i64) (FI hbr (by assumption)).2.symm) (Sub.jC O (by first | exact congrArg (Value.int .i32) (FH hbr (by assumption)).1 | exact congrArg (Value.int .i32) (FI hbr (by assumption)).1) (Sub.nil _)))
     ·exact qG
     ·(try dsimp only)
      first | done | exact acv
    ·(try simp only [Z] at h8)
     have hk3 : yI (l.getD i.toNat 0) < 3 := by have h9 := h8; omega
     refine bZ ?_
     refine dn (()) ?_ ?_ ?_
     ·exact (Sub.jC O (by first | exact congrArg (Value.int .i64) (FH hbr (by assumption)).2.symm | exact congrArg (Value.int .i64) (FI hbr (by assumption)).2.symm) (Sub.jC O (by first | exact congrArg (Value.int .i32) (FH hbr (by assumption)).1 | exact congrArg (Value.int .i32) (FI hbr (by assumption)).1) (Sub.nil _)))
     ·exact qG
     ·(try dsimp only)
      first | done | exact aaJ
 ·(try simp only [Z] at h1)
  refine dB (aI (aI (bf (aX (iH (fV O (fV O (fC O ?_))))))))
  refine gX (.inl O) Tryz.results43 O O O ?_
  exact ⟨by rw [NZ (by rw [← hE, jm (by omega)]; omega)]; rfl, HL⟩
end
end Go.Proofs.YtpdeedplgmbopaaGreatDoor
end
section
namespace Go.Proofs.YtpdeedplgmbopaaGreatDoor
open Go.RowKit
open _root_.Go.Proofs.Tryz
def Hw (w0 : World) (fv : Value) (g : List Int → Int → Bool → Int) (I : List Int → Int → Prop) : Prop := fv.oneCell' = true ∧ ∀ (F : HP) (W : World) (v : Value) (l : List Int) (x : Int) (b : Bool), V w0 W F → jq w0 F .i32 v l → l.length ≤ 4611686018427387904 → I l x →
  qZ prog fv [v, .int .i64 x, .bool b] W fun u W' => (u = .int .i64 (g l x b) ∧ I l (g l x b)) ∧ V w0 W' F
def Ru (w0 : World) (fv : Value) (m : List Int → Int → Bool) : Prop := fv.oneCell' = true ∧ ∀ (F : HP) (W : World) (v : Value) (l : List Int) (x : Int), V w0 W F → jq w0 F .i32 v l →
  qZ prog fv [v, .int .i64 x] W fun u W' => u = .bool (m l x) ∧ V w0 W' F
def inL (l : List Int) (x : Int) : Prop := 0 ≤ x ∧ x ≤ l.length
def acw (l : List Int) (x : Int) : Prop := 0 ≤ x ∧ x < l.length
section
variable {w0 : World}
theorem JJ (hT : wS w0) : Hw w0 (.func (.func 95) #[] #[]) xu inL :=
  ⟨rfl, fun F W v l x b H hr hl hx => ⟨95, [], [], _, _, rfl, func95, rfl, rfl, (SQ H hr hT hx.1 hx.2).mono fun u W' h => ⟨⟨h.1, by have := Vp l b hx.1 hx.2; exact ⟨Int.le_trans hx.1 this.1, this.2⟩⟩, h.2⟩⟩⟩
theorem JK (hT : wS w0) : Hw w0 (.func (.func 96) #[] #[]) zx inL :=
  ⟨rfl, fun F W v l x b H hr hl hx => ⟨96, [], [], _, _, rfl, func96, rfl, rfl, (SS H hr hT hx.1 hx.2).mono fun u W' h => ⟨⟨h.1, by have := Vq l b hx.1 hx.2; exact ⟨this.1, Int.le_trans this.2 hx.2⟩⟩, h.2⟩⟩⟩
theorem step_end (hT : wS w0) : Hw w0 (.func (.func 97) #[] #[]) EZ acw :=
  ⟨rfl, fun F W v l x b H hr hl hx => ⟨97, [], [], _, _, rfl, func97, rfl, rfl, (Vo H hr hT hx.1 (Int.le_of_lt hx.2) hl).mono fun u W' h => ⟨⟨h.1, by have := X0 l b hx.1 hx.2; exact ⟨Int.le_trans hx.1 this.1, this.2⟩⟩, h.2⟩⟩⟩
end
section
variable {w0 w : World} {F : HP} {v : Value} {l : List Int} {x : Int}
theorem Qj (H : V w0 w F) (hr : jq w0 F .i32 v l) : gJ prog 92 #[v, .int .i64 x] w fun u w' => u = .bool (decide (x < l.length)) ∧ V w0 w' F := by
  refine nT func92 ntmps92 ?_
  refine jr O (bT O (bP O (aV (iQ (hr _ (H)) ay O) (aV (gY O O) (fC O (dH results92 O ?_))))))
  exact ⟨O, H⟩
theorem TD (H : V w0 w F) (hr : jq w0 F .i32 v l) : gJ prog 93 #[v, .int .i64 x] w fun u w' => u = .bool (decide (0 < x)) ∧ V w0 w' F := by
  refine nT func93 ntmps93 ?_
  refine jr O (bT O (aV (iV O O) (fC O (dH results93 O ?_))))
  exact ⟨O, H⟩
theorem Qk (H : V w0 w F) (hr : jq w0 F .i32 v l) : gJ prog 94 #[v, .int .i64 x] w fun u w' => u = .bool (decide (x < (l.length : Int) - 1)) ∧ V w0 w' F := by
  have Vm : l.length ≤ 9223372036854775807 := by have := (hr _ H).open; obtain ⟨a, c, e, h3, h4, _⟩ := this; omega
  refine nT func94 ntmps94 ?_
  refine jr O (bT O (bP O (aV (iQ (hr _ (H)) ay O) (aV (kU O O (by omega)) (aV (gY O O) (fC O (dH results94 O ?_)))))))
  exact ⟨O, H⟩
end
section
variable {w0 : World}
theorem Hy : Ru w0 (.func (.func 92) #[] #[]) fun l x => decide (x < l.length) := ⟨rfl, fun F W v l x H hr => ⟨92, [], [], _, _, rfl, func92, rfl, rfl, Qj H hr⟩⟩
theorem JL : Ru w0 (.func (.func 93) #[] #[]) fun l x => decide (0 < x) := ⟨rfl, fun F W v l x H hr => ⟨93, [], [], _, _, rfl, func93, rfl, rfl, TD H hr⟩⟩
theorem Hz : Ru w0 (.func (.func 94) #[] #[]) fun l x => decide (x < (l.length : Int) - 1) := ⟨rfl, fun F W v l x H hr => ⟨94, [], [], _, _, rfl, func94, rfl, rfl, Qk H hr⟩⟩
end
section
variable {w0 w : World} {F : HP} {v fv : Value} {l : List Int} {x n : Int} {g : Int → Int} {I : Int → Prop}
theorem Ql (H : V w0 w F) (hf : ∀ W y, V w0 W F → I y → qZ prog fv [.int .i64 y] W fun u W' => (u = .int .i64 (g y) ∧ I (g y)) ∧ V w0 W' F) (hx : I x) (hn : n ≤ 9223372036854775807) : gJ prog 90 #[.int .i64 x, .int .i64 n, fv] w fun u w' => u = .int .i64 (yG g n.toNat x) ∧ V w0 w' F := by
 refine CQ func90 ntmps90 ?_
 refine jr O (aP (bT O (bP O (iJ (aY ?_)))))
 refine fF [(2, _), (8, _)] (fun (⟨k, y⟩ : Nat × Int) => [(0, .int .i64 y), (9, .int .i64 (k : Int))]) (fun (⟨k, y⟩ : Nat × Int) W => ((k : Int) ≤ max n 0 ∧ I y ∧ yG g n.toNat x = yG g (n.toNat - k) y) ∧ V w0 W F) (fun (⟨k, y⟩ : Nat × Int) => n.toNat - k) ((0, x)) qG qG ⟨⟨by omega, hx, O⟩, H⟩ ?_
 rintro ⟨k, y⟩ w1 ⟨⟨hk, hy, he⟩, HL⟩
 dsimp only [List.cons_append, List.nil_append]
 refine iH (aV (gY O O) (pK (bI O (fun h1 => ?_) (fun h1 => ?_))))
 ·(try simp only [Z] at h1)
  refine gq (aP (aY (bT O (bP O (jv (nJ O O (hf _ _ HL hy)) ?_)))))
  rintro _ w2 ⟨⟨rfl, hgy⟩, H2⟩
  refine wu O (bT O (bP O (aV (dR O O) (je O (fun h2 => ?_) (fun h2 => ?_)))))
  ·(try simp only [Z] at h2)
   have heq : g y = y := h2
   refine dB (aI ?_)
   refine A8 (by decide) ?_
   refine aI (aI (bf (aX (bT O (fC O (dH results90 O ?_))))))
   exact ⟨by rw [he]; first | rw [GI heq] | (rw [show n.toNat - k = 0 from by omega]; rfl), H2⟩
  ·(try simp only [Z] at h2)
   have hne : ¬ g y = y := h2
   refine gq (aC (bP O (fV O (bM (aJ (aX (aC (aV (fQ O O (by omega)) (bP O (bM ?_))))))))))
   refine dK ((k + 1, g y)) ?_ ?_ ?_ ?_
   ·exact qG
   ·exact qG
   ·(try dsimp only)
    first | done | exact ⟨⟨by omega, hgy, by rw [he, PL (by omega) hne]; rfl⟩, H2⟩
   ·(try dsimp only); omega
 ·(try simp only [Z] at h1)
  refine dB (aI (aI (bf (aX (bT O (fC O (dH results90 O ?_)))))))
  exact ⟨by rw [he]; first | rw [GI heq] | (rw [show n.toNat - k = 0 from by omega]; rfl), HL⟩
end
structure MP where
  ps : Nat
  pb : Nat
  pw : Nat
  pm : Nat
def N7 (p : MP) : Value := .func (.func 89) #[] #[.pointer (some ⟨p.pm, 0, none⟩), .pointer (some ⟨p.ps, 0, none⟩), .pointer (some ⟨p.pb, 0, none⟩), .pointer (some ⟨p.pw, 0, none⟩)]
def ng (p : MP) (sv : Value) (b t : Bool) (mv : Value) : HP := dL p.pm (.cells #[mv] 66 (0, 0)) • dL p.pw (.cells #[.bool t] 4 (0, 0)) • dL p.pb (.cells #[.bool b] 4 (0, 0)) • dL p.ps (.cells #[sv] 141 (0, 0))
section
variable {w0 w : World} {F : HP} {v sv mv : Value} {l : List Int} {x n : Int} {b t : Bool} {p : MP} {ps pl pb pw pm : Nat} {g : List Int → Int → Bool → Int} {I : List Int → Int → Prop} {m : List Int → Int → Bool}
theorem Qm (H : V w0 w (dL ps (.cells #[sv] 141 (0, 0)) • dL pl (.cells #[v] 22 (0, 0)) • dL pb (.cells #[.bool b] 4 (0, 0)) • F)) (hf : Hw w0 sv g I) (hr : jq w0 F .i32 v l) (hl : l.length ≤ 4611686018427387904) (hx : I l x) :
    gJ prog 91 #[.int .i64 x, .pointer (some ⟨ps, 0, none⟩), .pointer (some ⟨pl, 0, none⟩), .pointer (some ⟨pb, 0, none⟩)] w fun u w' => (u = .int .i64 (g l x b) ∧ I l (g l x b)) ∧ V w0 w' (dL ps (.cells #[sv] 141 (0, 0)) • dL pl (.cells #[v] 22 (0, 0)) • dL pb (.cells #[.bool b] 4 (0, 0)) • F) := by
  refine TV func91 ntmps91 ?_
  dsimp only [vS, Nat.reduceAdd]
  refine jr O (iH (fZ underlying141 O (H).get.2 O (fZ ay O (H.f2).get.2 O (bP O (fZ bK O (H.f3).get.2 O (jv (nJ O O (hf.2 _ _ _ l _ _ H (fun W HW => hr _ (HW.right.right.right)) hl hx)) ?_))))))
  rintro _ w1 ⟨⟨rfl, hgx⟩, H1⟩
  refine fC O (dH results91 O ?_)
  exact ⟨⟨O, hgx⟩, H1⟩
theorem yJ (H : V w0 w (ng p sv b t mv • F)) (hf : Hw w0 sv g I) (hm : Ru w0 mv m) (hI : ∀ y, m l y = true → inL l y → I l y) (hr : jq w0 F .i32 v l) (hl : l.length ≤ 4611686018427387904) (hx : inL l x) (hn : n ≤ 9223372036854775807) :
  qZ prog (N7 p) [v, .int .i64 x, .int .i64 n] w fun u w' => u = PN (if m l x = true then (yG (fun y => g l y b) n.toNat x, t, true) else (0, false, false)) ∧ V w0 w' (ng p sv b t mv • F) := by
 obtain ⟨ps, pb, pw, pm⟩ := p
 refine ⟨_, [], _, _, _, O, func89, O, O, ?_⟩
 have H0 : V w0 w (dL pm (.cells #[mv] 66 (0, 0)) • dL pw (.cells #[.bool t] 4 (0, 0)) • dL pb (.cells #[.bool b] 4 (0, 0)) • dL ps (.cells #[sv] 141 (0, 0)) • F) := H.of_eq (by unfold ng; simp only [bW])
 have hback : ∀ {W : World}, V w0 W (dL pm (.cells #[mv] 66 (0, 0)) • dL pw (.cells #[.bool t] 4 (0, 0)) • dL pb (.cells #[.bool b] 4 (0, 0)) • dL ps (.cells #[sv] 141 (0, 0)) • F) → V w0 W (ng ⟨ps, pb, pw, pm⟩ sv b t mv • F) := fun h => h.of_eq (by unfold ng; simp only [bW])
 simp only [List.nil_append, List.cons_append]
 refine TV func89 ntmps89 ?_
 dsimp only [vS, Nat.reduceAdd]
 refine iH (jv (iM (l := [_]) H0 O (by first | rfl | exact Aq (by first | rfl | exact Rd.one (hr _ (H0.right.right.right.right))))) ?_)
 rintro _ w1 ⟨b1, rfl, H1⟩
 refine fV O (fV O (wu O (iH (fZ underlying66 O (H1.f2).get.2 O (fZ ay O (H1).get.2 O (bP O (jv (nJ O O (hm.2 _ _ _ l _ H1 (fun W HW => hr _ (HW.right.right.right.right.right)))) ?_)))))))
 rintro _ w2 ⟨rfl, H2⟩
 refine aV (kT O) (je O (fun h1 => ?_) (fun h1 => ?_))
 ·(try simp only [Z] at h1)
  have hno : ¬ m l x = true := by have h9 := h1; simpa using h9
  refine iH (fV O (fV O (fC O (aF ?_))))
  refine gX (.inl O) results89 O O O ?_
  exact ⟨by rw [if_neg hno]; rfl, hback H2.right.f4.f4.f4.f4⟩
 ·(try simp only [Z] at h1)
  have hyes : m l x = true := by have h9 := h1; simpa using h9
  refine gq (aP ?_)
  have AX := H2.drew
  have gW := V.kp (AX.f5.f5.f5.f5.f5)
  refine yw [4] gW O (jB 0 O gW O (jB 1 O gW O (ji 2 O gW (fun _ => vV O O) (jT 4 O gW (fun W hW => kC bK O ((Kp.h hW).f3).get.2 O) (oq 3 O (yN O func90 (Ql (g := fun y => g l y b) (I := I l) AX (fun W y HW hy => ⟨_, [], _, _, _, O, func91, O, O, (Qm (F := dL pm (.cells #[mv] 66 (0, 0)) • dL pw (.cells #[.bool t] 4 (0, 0)) • F) (HW.of_eq (by ac_rfl)) hf (fun W HW => hr W HW.right.right) hl hy).mono fun u W2 h => ⟨h.1, h.2.of_eq (by ac_rfl)⟩⟩) (hI x hyes hx) hn)) ?_)))))
  rintro _ w3 ⟨rfl, H3⟩
  have yQ := V.kp (H3.f5.f5.f5.f5.f5)
  refine dV yQ (fun W hW => (Kp.h hW).f5.f5.f5.f5.f5) ?_
  refine ji 5 O yQ (fun _ => dN O) (ji 6 O yQ (fun _ => dN O) (ji 7 O yQ (fun _ => dN O) (qU (aX (lS ?_)))))
  refine gX (.inl O) results89 O O O ?_
  exact ⟨by rw [if_pos hyes]; rfl, hback H3.right.f4.f4.f4.f4⟩
end
end Go.Proofs.YtpdeedplgmbopaaGreatDoor
end
