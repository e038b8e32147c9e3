import Derived.Test.YtpdeedplgmbopaaGreatDoorZ4
import Derived.Test.YtpdeedplgmbopaaGreatDoorZ11
import Derived.Test.YtpdeedplgmbopaaGreatDoorZ15
import Derived.Test.YtpdeedplgmbopaaGreatDoorZ12
import Derived.Test.YtpdeedplgmbopaaGreatDoorZ14
import Derived.Test.YtpdeedplgmbopaaGreatDoorZ13
import Derived.Test.YtpdeedplgmbopaaGreatDoorZ10
import Derived.Test.YtpdeedplgmbopaaGreatDoorZ8
set_option linter.unusedSimpArgs false
set_option linter.unusedVariables false
/- Texts of mine, joined, their names in short: VD Atom2 EdCl VDo VB VGo. -/
section
namespace Go.Proofs.YtpdeedplgmbopaaGreatDoor
open Go.RowKit
open _root_.Go.Proofs.Tryz
abbrev VC (c m e : Nat) (name : ByteArray) (kv : Value) (n : Int) (g : Bool) (lv : Value) (p : Int) : HP := dK c (.cells #[.pointer (some ⟨m, 0, none⟩), .pointer (some ⟨e, 0, none⟩), .string name, kv, .int .i64 n, .bool g, lv, .int .i64 p] 130 (0, 0))
namespace dF
variable (s : dF)
def zi : Prop := s.c.mode = 2 ∧ 0 < s.c.L.length ∧ s.c.pt = s.c.L.length
instance : Decidable s.zi := by unfold zi; infer_instance
def Hf : Int := if s.zi then s.Js ((s.c.L.length : Int) - 1) else 0
def Hg : dF := if s.zi then s.Eu ((s.c.L.length : Int) - 1) else s
end dF
section
variable {w0 w : World} {F : HP} {c m e : Nat} {s : dF} {name : ByteArray} {kv lv : Value} {n p : Int} {g : Bool}
theorem KU (H : V w0 w (VC c m e name kv n g lv p • gB e s • F)) : gI prog 75 #[.pointer (some ⟨c, 0, none⟩)] w fun v w' => v = .int .i64 s.Hf ∧ V w0 w' (VC c m e name kv n g lv p • gB e s.Hg • F) := by
 have Xi : s.c.L.length ≤ 1024 := by
  obtain ⟨pb, pr, pw, pt, pm, ph, bl, pv, es, u0, u1, u2, u3, u4, u5, u6, u7, u8, u9, ua, h, _, _, H2⟩ := H.f2.Gp
  obtain ⟨a, c, xs, f, t, h1, h2, h3, h4, h5, h6, h7, _⟩ := H2.f2.buf
  exact h4
 refine gG func75 ntmps75 ?_
 refine jg O (bP O (dJ O (bD 1 dw O sizeOf37 O (fG iU O (H).get.2 O (dS O func28 (zU H.f2) ?_)))))
 rintro _ w1 ⟨u1, rfl, H1⟩
 refine jr (fH (l := [_, _, _]) H1 zeroValue46 O) ?_
 rintro _ w2 ⟨b2, rfl, H2⟩
 refine aH (bU 0 (l' := [_, _, _]) (us := [_, _, _]) H2 sizeOf46 O O O (aW (by first | rfl | exact Rd.one ((H2.f2).aS)) (ay (ay bF))) O O) ?_
 rintro _ w3 H3
 refine pJ (bP O (dJ O (bD 1 dw O sizeOf37 O (fG iU O (H3.f4).get.2 O (dS O func23 (KT H3.f3) ?_)))))
 rintro _ w4 ⟨u4, ks4, us4, sv4, rfl, H4⟩
 refine aV (EG 3 iq O O (dn aK O) O O) (aV (dV O O) (jP O (fun h1 => ?_) (fun h1 => ?_)))
 ·(try simp only [Z] at h1)
  refine bC (bD 0 jl O dH O (bC (fG aB O (H4.f6).get.2 O (bC (aV (jk ((H4.f7).aS) aB O) (bC (aV (iV O O) (jF O O (jP O (fun h2 => ?_) (fun h2 => ?_))))))))))
  ·(try simp only [Z] at h2)
   refine bC (bD 1 jl O aj O (bC (fG aK O (H4.f6).get.2 O (bC (bD 0 jl O dH O (bC (fG aB O (H4.f6).get.2 O (bC (aV (jk ((H4.f7).aS) aB O) (bC (aV (dV O O) (jF O O (jh O (fun h3 => ?_) (fun h3 => ?_))))))))))))))
   ·(try simp only [Z] at h3)
    refine aP ?_
    have aaG := H4.drew
    have Dp := V.kp (aaG.f8.f8.f8.f8.f8.f8.f8.f8)
    refine yC [3, 5] Dp O (jG 0 O Dp O (kD 1 O Dp O (gV 2 O Dp 1 dw O sizeOf37 O (jS 3 O Dp (fun W hW => jX iU O ((Kp.h hW).f8).get.2 O) (gV 4 O Dp 0 jl O dH O (jS 5 O Dp (fun W hW => jX aB O ((Kp.h hW).f6).get.2 O) (jB 6 O Dp (fun _ => jk ((aaG.f7).aS) aB O) (jB 7 O Dp (fun _ => kX O O (by omega)) (og 8 O (yF O func30 (EC aaG.f5)) ?_)))))))))
    rintro _ w5 ⟨rfl, H5⟩
    have Bv := V.kp (H5.f8.f8.f8.f8.f8.f8.f8.f8)
    refine gW Bv (by kernel_rfl) ?_
    refine jB 9 O Bv (fun _ => dN O) (qR (aX (mD (aF (dG results75 O ?_)))))
    have hp : s.zi := by unfold dF.zi; omega
    exact ⟨by unfold dF.Hf; rw [if_pos hp], by unfold dF.Hg; rw [if_pos hp]; exact H5.f2.right.f2.right.f2.right.f2.right.f2.right.f2.right.f2⟩
   ·(try simp only [Z] at h3)
    refine fZ (jC O (dG results75 O ?_))
    have hp : ¬ s.zi := by unfold dF.zi; omega
    exact ⟨by unfold dF.Hf; rw [if_neg hp], by unfold dF.Hg; rw [if_neg hp]; exact H4.right.right.right.right.f2.right.f2.right.f2⟩
  ·(try simp only [Z] at h2)
   refine bI (bI (bI (bI (bI (bI (iM O O (iJ (qy (fZ (jC O (dG results75 O ?_)))))))))))
   have hp : ¬ s.zi := by unfold dF.zi; omega
   exact ⟨by unfold dF.Hf; rw [if_neg hp], by unfold dF.Hg; rw [if_neg hp]; exact H4.right.right.right.right.f2.right.f2.right.f2⟩
 ·(try simp only [Z] at h1)
  refine bI (bI (bI (bI (iM O O (bQ O (bI (bI (bI (bI (bI (bI (iM O O (iJ (qy (fZ (jC O (dG results75 O ?_)))))))))))))))))
  have hp : ¬ s.zi := by unfold dF.zi; omega
  exact ⟨by unfold dF.Hf; rw [if_neg hp], by unfold dF.Hg; rw [if_neg hp]; exact H4.right.right.right.right.f2.right.f2.right.f2⟩
theorem KW (H : V w0 w F) : gI prog 125 #[.string name] w fun v w' => v = .tuple #[.bool (decide (wu name ∨ oP name)), .bool (decide (wu name))] ∧ V w0 w' F := by
  refine gG func125 ntmps125 ?_
  refine iE (fU O (vk O (bP O (iJ (aY ?_)))))
  refine kM [(4, _)] (fun (_ : Unit) => [(5, .bool (decide (wu name)))]) (fun (_ : Unit) W => V w0 W F) lI ?_ ?_
  · rintro _ w1 HJ
    dsimp only [List.cons_append, List.nil_append]
    refine bJ O (fun h1 => ?_) (fun h1 => ?_)
    · (try simp only [Z] at h1)
      refine iE (fU O (eY O (aT (aF (Jl results125 O O ?_)))))
      have ht : wu name := by assumption
      exact ⟨by rw [decide_eq_true ht, decide_eq_true (Or.inl ht)], HJ⟩
    · (try simp only [Z] at h1)
      refine kM [] (fun (_ : Unit) => [(10, .bool (decide (oP name)))]) (fun (_ : Unit) W => V w0 W F) (Sub.nil _) ?_ ?_
      · rintro _ w2 HK
        dsimp only [List.cons_append, List.nil_append]
        refine bJ O (fun h2 => ?_) (fun h2 => ?_)
        · (try simp only [Z] at h2)
          refine iE (fU O (eY O (aT (aF (Jl results125 O O ?_)))))
          have ht : ¬ wu name := by assumption
          have hc : oP name := by assumption
          exact ⟨by rw [decide_eq_false ht, decide_eq_true (Or.inr hc)], HK⟩
        · (try simp only [Z] at h2)
          refine bY (aJ (aX (iE (fU O (eY O (Jl results125 O O ?_))))))
          have ht : ¬ wu name := by assumption
          have hc : ¬ oP name := by assumption
          exact ⟨by rw [decide_eq_false ht, decide_eq_false (fun h => h.elim ht hc)], HK⟩
      · skip
        refine iE (aV (fO O O) (gJ O (bJ O (fun h3 => ?_) (fun h3 => ?_))))
        · (try simp only [Z] at h3)
          refine bY ?_
          refine dh (()) ?_ ?_ ?_
          · exact (Sub.jE O (by first | exact oO (beq_iff_eq.2 (by assumption)) (by unfold oP; first | exact .inl (by assumption) | exact .inr (.inl (by assumption)) | exact .inr (.inr (.inl (by assumption))) | exact .inr (.inr (.inr (.inl (by assumption)))) | exact .inr (.inr (.inr (.inr (by assumption))))) | exact congrArg Value.bool (by rw [Bool.eq_iff_iff, decide_eq_true_iff, beq_iff_eq]; unfold oP; exact ⟨fun h => .inr (.inr (.inr (.inr h))), fun h => by rcases h with h | h | h | h | h <;> first | exact h | exact absurd h (by assumption)⟩)) (Sub.nil _))
          · exact (Sub.nil _)
          · (try dsimp only)
            first | done | exact HJ
        · (try simp only [Z] at h3)
          refine iE (aV (fO O O) (gJ O (bJ O (fun h4 => ?_) (fun h4 => ?_))))
          · (try simp only [Z] at h4)
            refine bY ?_
            refine dh (()) ?_ ?_ ?_
            · exact (Sub.jE O (by first | exact oO (beq_iff_eq.2 (by assumption)) (by unfold oP; first | exact .inl (by assumption) | exact .inr (.inl (by assumption)) | exact .inr (.inr (.inl (by assumption))) | exact .inr (.inr (.inr (.inl (by assumption)))) | exact .inr (.inr (.inr (.inr (by assumption))))) | exact congrArg Value.bool (by rw [Bool.eq_iff_iff, decide_eq_true_iff, beq_iff_eq]; unfold oP; exact ⟨fun h => .inr (.inr (.inr (.inr h))), fun h => by rcases h with h | h | h | h | h <;> first | exact h | exact absurd h (by assumption)⟩)) (Sub.nil _))
            · exact (Sub.nil _)
            · (try dsimp only)
              first | done | exact HJ
          · (try simp only [Z] at h4)
            refine iE (aV (fO O O) (gJ O (bJ O (fun h5 => ?_) (fun h5 => ?_))))
            · (try simp only [Z] at h5)
              refine bY ?_
              refine dh (()) ?_ ?_ ?_
              · exact (Sub.jE O (by first | exact oO (beq_iff_eq.2 (by assumption)) (by unfold oP; first | exact .inl (by assumption) | exact .inr (.inl (by assumption)) | exact .inr (.inr (.inl (by assumption))) | exact .inr (.inr (.inr (.inl (by assumption)))) | exact .inr (.inr (.inr (.inr (by assumption))))) | exact congrArg Value.bool (by rw [Bool.eq_iff_iff, decide_eq_true_iff, beq_iff_eq]; unfold oP; exact ⟨fun h => .inr (.inr (.inr (.inr h))), fun h => by rcases h with h | h | h | h | h <;> first | exact h | exact absurd h (by assumption)⟩)) (Sub.nil _))
              · exact (Sub.nil _)
              · (try dsimp only)
                first | done | exact HJ
            · (try simp only [Z] at h5)
              refine iE (aV (fO O O) (gJ O (bJ O (fun h6 => ?_) (fun h6 => ?_))))
              · (try simp only [Z] at h6)
                refine bY ?_
                refine dh (()) ?_ ?_ ?_
                · exact (Sub.jE O (by first | exact oO (beq_iff_eq.2 (by assumption)) (by unfold oP; first | exact .inl (by assumption) | exact .inr (.inl (by assumption)) | exact .inr (.inr (.inl (by assumption))) | exact .inr (.inr (.inr (.inl (by assumption)))) | exact .inr (.inr (.inr (.inr (by assumption))))) | exact congrArg Value.bool (by rw [Bool.eq_iff_iff, decide_eq_true_iff, beq_iff_eq]; unfold oP; exact ⟨fun h => .inr (.inr (.inr (.inr h))), fun h => by rcases h with h | h | h | h | h <;> first | exact h | exact absurd h (by assumption)⟩)) (Sub.nil _))
                · exact (Sub.nil _)
                · (try dsimp only)
                  first | done | exact HJ
              · (try simp only [Z] at h6)
                refine aC (aV (fO O O) (fU O (bM ?_)))
                refine dh (()) ?_ ?_ ?_
                · exact (Sub.jE O (by first | exact oO (beq_iff_eq.2 (by assumption)) (by unfold oP; first | exact .inl (by assumption) | exact .inr (.inl (by assumption)) | exact .inr (.inr (.inl (by assumption))) | exact .inr (.inr (.inr (.inl (by assumption)))) | exact .inr (.inr (.inr (.inr (by assumption))))) | exact congrArg Value.bool (by rw [Bool.eq_iff_iff, decide_eq_true_iff, beq_iff_eq]; unfold oP; exact ⟨fun h => .inr (.inr (.inr (.inr h))), fun h => by rcases h with h | h | h | h | h <;> first | exact h | exact absurd h (by assumption)⟩)) (Sub.nil _))
                · exact (Sub.nil _)
                · (try dsimp only)
                  first | done | exact HJ
  · skip
    refine iE (aV (fO O O) (gJ O (bJ O (fun h7 => ?_) (fun h7 => ?_))))
    · (try simp only [Z] at h7)
      refine bY ?_
      refine dh (()) ?_ ?_ ?_
      · exact (Sub.jE O (by first | exact oO (beq_iff_eq.2 (by assumption)) (by unfold wu; first | exact .inl (by assumption) | exact .inr (.inl (by assumption)) | exact .inr (.inr (.inl (by assumption))) | exact .inr (.inr (.inr (by assumption)))) | exact congrArg Value.bool (by rw [Bool.eq_iff_iff, decide_eq_true_iff, beq_iff_eq]; unfold wu; exact ⟨fun h => .inr (.inr (.inr h)), fun h => by rcases h with h | h | h | h <;> first | exact h | exact absurd h (by assumption)⟩)) (Sub.nil _))
      · exact lI
      · (try dsimp only)
        first | done | exact H
    · (try simp only [Z] at h7)
      refine iE (aV (fO O O) (gJ O (bJ O (fun h8 => ?_) (fun h8 => ?_))))
      · (try simp only [Z] at h8)
        refine bY ?_
        refine dh (()) ?_ ?_ ?_
        · exact (Sub.jE O (by first | exact oO (beq_iff_eq.2 (by assumption)) (by unfold wu; first | exact .inl (by assumption) | exact .inr (.inl (by assumption)) | exact .inr (.inr (.inl (by assumption))) | exact .inr (.inr (.inr (by assumption)))) | exact congrArg Value.bool (by rw [Bool.eq_iff_iff, decide_eq_true_iff, beq_iff_eq]; unfold wu; exact ⟨fun h => .inr (.inr (.inr h)), fun h => by rcases h with h | h | h | h <;> first | exact h | exact absurd h (by assumption)⟩)) (Sub.nil _))
        · exact lI
        · (try dsimp only)
          first | done | exact H
      · (try simp only [Z] at h8)
        refine iE (aV (fO O O) (gJ O (bJ O (fun h9 => ?_) (fun h9 => ?_))))
        · (try simp only [Z] at h9)
          refine bY ?_
          refine dh (()) ?_ ?_ ?_
          · exact (Sub.jE O (by first | exact oO (beq_iff_eq.2 (by assumption)) (by unfold wu; first | exact .inl (by assumption) | exact .inr (.inl (by assumption)) | exact .inr (.inr (.inl (by assumption))) | exact .inr (.inr (.inr (by assumption)))) | exact congrArg Value.bool (by rw [Bool.eq_iff_iff, decide_eq_true_iff, beq_iff_eq]; unfold wu; exact ⟨fun h => .inr (.inr (.inr h)), fun h => by rcases h with h | h | h | h <;> first | exact h | exact absurd h (by assumption)⟩)) (Sub.nil _))
          · exact lI
          · (try dsimp only)
            first | done | exact H
        · (try simp only [Z] at h9)
          refine aC (aV (fO O O) (fU O (bM ?_)))
          refine dh (()) ?_ ?_ ?_
          · exact (Sub.jE O (by first | exact oO (beq_iff_eq.2 (by assumption)) (by unfold wu; first | exact .inl (by assumption) | exact .inr (.inl (by assumption)) | exact .inr (.inr (.inl (by assumption))) | exact .inr (.inr (.inr (by assumption)))) | exact congrArg Value.bool (by rw [Bool.eq_iff_iff, decide_eq_true_iff, beq_iff_eq]; unfold wu; exact ⟨fun h => .inr (.inr (.inr h)), fun h => by rcases h with h | h | h | h <;> first | exact h | exact absurd h (by assumption)⟩)) (Sub.nil _))
          · exact lI
          · (try dsimp only)
            first | done | exact H
end
end Go.Proofs.YtpdeedplgmbopaaGreatDoor
end
section
namespace Go.Proofs.YtpdeedplgmbopaaGreatDoor
open Go.RowKit Go.Lib
section
variable {P : Program} {L : List (Nat × Value)} {w0 w : World} {F : HP} {ty : TypeId} {b : Nat} {v d : Int} {t : TypeId}
theorem NM {u : Value} (hc : w.cell? ⟨b, 0, none⟩ = some u) (hz : w.frozen? ⟨b, 0, none⟩ = false) : (Extern.Atomic.storeT #[.pointer (some ⟨b, 0, none⟩), .int .i64 d]).run P w = .ok Extern.Atomic.none_ (w.setCell ⟨b, 0, none⟩ (.int .i64 d)) := by
  change Sem.run P (do store (← asAddr (.pointer (some ⟨b, 0, none⟩))) (.int .i64 d) .atomic; pure Extern.Atomic.none_) w = _
  simp [asAddr, run_store _ _ _ _ _ (rfl : (Value.int .i64 d).oneCell' = true), hc, hz, Result.andThen]
theorem Tv {f : FuncId} {args : List Operand} {ts : Array TypeId} {fn : Func} (H : V w0 w (dK b (.cells #[.int .i64 v] t (0, 0)) • F)) (ha : Dz L args = some [.pointer (some ⟨b, 0, none⟩), .int .i64 d])
    (hf : P.funcs[f]? = some fn) (hname : (fn.name == "runtime.NumGoroutine") = false) (hb : fn.body.isNone = true) (hn : Extern.findNext fn = none) (he : Extern.find fn = some Extern.Atomic.storeT) :
    ug P L (.call ⟨.value (.func f), args.toArray, ts⟩) ty w fun u w' => V w0 w' (dK b (.cells #[.int .i64 d] t (0, 0)) • F) :=
  VL ha hf hname hb hn he (NM (je H.get.2 rfl) (zu H.get.2)) (H.setCell (i := 0) _)
theorem Hl (H : V w0 w (dK b (.cells #[.int .i64 v] t (0, 0)) • F)) : gI Tryz.prog 123 #[.pointer (some ⟨b, 0, none⟩), .int .i64 d] w fun u w' => V w0 w' (dK b (.cells #[.int .i64 d] t (0, 0)) • F) := by
 refine oq Tryz.func123 Tryz.ntmps123 ?_
 refine aC (nD O O (bD 0 Tryz.underlying161 O Tryz.sizeOf2 O (bQ O (jr (Tv H O Tryz.func159 O O (by kernel_rfl) (by kernel_rfl)) ?_))))
 rintro _ w1 H1
 refine bM (lg (.inr O) Tryz.results123 ?_)
 exact H1
end
end Go.Proofs.YtpdeedplgmbopaaGreatDoor
end
section
namespace Go.Proofs.YtpdeedplgmbopaaGreatDoor
open Go.RowKit
open _root_.Go.Proofs.Tryz
section
variable {w0 w : World} {F : HP} {e : Nat} {s : dF}
theorem IC (H : V w0 w (gB e s • F)) (hi : s.inn = false) : gI prog 70 #[.pointer (some ⟨e, 0, none⟩)] w fun v w' => ∃ q, v = .pointer (some ⟨q, 0, none⟩) ∧ V w0 w' (gB e s • F) := by
 refine gG func70 ntmps70 ?_
 refine jg O (aP (bP O (dS O func65 (oQ H) ?_)))
 rintro _ _ ⟨rfl, rfl⟩
 refine iJ (qy (fZ (aP ?_)))
 obtain ⟨xG, xH, xI, xJ, xK, xM, xO, xP, uy, rV, rW, rX, rY, rZ, su, sD, sF, sG, sH, sJ, iw, dD, kV, iI⟩ := (H).Gp
 have hwo := wE (iI.f11)
 simp only [List.all_cons, List.all_nil, Bool.and_true, Bool.and_eq_true] at hwo
 obtain ⟨o0, o1, o2, o3, o4, o5, o6, o7, o8, o9, oa⟩ := hwo
 have hon := (iI.f10).zH
 have hpl : s.put.length ≤ 16384 := by have h9 := iw.2.2.2.2.1; unfold iG at h9; omega
 refine aC (nD O O (aV (eU ah O sizeOf82 O O (iI).get.2) (jr (fH (l := [_, _, _, _, _, _, _, _, _, _, _, _, _, _, _, _, _, _, _, _, _, _, _, _, _, _, _, _, _, _, _, _, _, _]) iI zeroValue82 O) ?_)))
 rintro _ w3 ⟨b3, rfl, H3⟩
 refine aH (bU 0 (l' := [_, _, _, _, _, _, _, _, _, _, _, _, _, _, _, _, _, _, _, _, _, _, _, _, _, _, _, _, _, _, _, _, _, _]) (us := [_, _, _, _, _, _, _, _, _, _, _, _, _, _, _, _, _, _, _, _, _, _, _, _, _, _, _, _, _, _, _, _, _, _]) H3 sizeOf82 O O O (ay (ay (ay (ay (ay (ay (ay (ay (ay (ay (ay (ay (ay (ay (ay (ay (ay (ay (ay (ay (ay (ay (ay (ay (ay (ay (ay (ay (ay (ay (ay (ay (ay (aW (by first | rfl | exact Rd.one ((H3.f10).aS)) bF)))))))))))))))))))))))))))))))))) O O) ?_
 rintro _ w4 H4
 refine qH O (dJ O (bD 0 ah O aQ O (aV (nS 0 (xs := [_, _, _, _, _, _, _, _, _, _, _]) aG O aQ O O (H4.f2).get.2 O) (dS O func80 (Na H4.f7.f7.f7.f7.f7) ?_))))
 rintro _ w5 ⟨qb5, qr5, qw5, qt5, qm5, rfl, H5⟩
 refine bD 0 ah O aQ O (aH (bU 0 (l' := [_, _, _, _, _, _, _, _, _, _, _, _, _, _, _, _, _, _, _, _, _, _, _, _, _, _, _, _, _, _, _, _, _, _]) (us := [_, _, _, _, _, _, _, _, _, _, _]) H5.f11 aQ O O O (ay (ay (ay (ay (ay (ay (ay (ay (ay (ay (ay bF))))))))))) O O) ?_)
 rintro _ w6 H6
 have Z4 := H6.f5.right
 have Hd8 := Z4.f2.right
 have Hd9 := Hd8.f2.right
 have X8 := Hd9.f2.right
 have O9 := X8.f2.right
 refine pJ (bP O (dJ O (bD 16 ah O aO O (fG bK O (O9.f7).get.2 O (jh O (fun h => by exfalso; (try simp only [Z] at h); rw [hi] at h; simp at h) (fun h1 => ?_))))))
 (try simp only [Z] at h1)
 refine fZ (bP O (dJ O (bD 11 ah O sizeOf78 O (fG iT O (O9.f7).get.2 O (dS O func109 (qZ O9.f8) ?_)))))
 rintro _ w12 ⟨q12, rfl, um⟩
 refine bD 11 ah O sizeOf78 O (aH (dZ 11 um.f3 sizeOf78) ?_)
 rintro _ Oz uS
 have Yf := uS.f2.right
 refine qH O (dJ O (bD 33 ah O bH O (fG aU O (Yf.f8).get.2 O (dS O func122 (zh Yf (fun W HW => (HW.f10).aS) hon (by omega)) ?_))))
 rintro u15 Sr yM
 refine bD 33 ah O bH O (aH (eX 33 (l' := [_, _, _, _, _, _, _, _, _, _, _, _, _, _, _, _, _, _, _, _, _, _, _, _, _, _, _, _, _, _, _, _, _, _]) yM.f2 bH O O (by first | rfl | exact Rd.one ((yM).aS)) O O) ?_)
 rintro _ w16 yH
 have Pe := yH.f2.right
 refine Xg (aV (dP (zl := [.int .i64 0]) (pl := [(0, 0), (0, 0), (0, 1)]) [_] underlying161 zeroValue161 O (fun w => by kernel_rfl) O (.zero (zs := []) O (.zero (zs := []) O (.zero (zs := [.int .i64 0]) O .nil))) O) (jr (iD (l := [_]) Pe O O) ?_))
 rintro _ XF ⟨b18, rfl, CG⟩
 refine bD 12 ah O sizeOf79 O (aH (dZ 12 CG.f2 sizeOf79) ?_)
 rintro _ w19 DW
 refine pJ ?_
 have KX := DW.drew
 have yX := V.kp (KX.f13.f13.f13.f13.f13.f13.f13.f13.f13.f13.f13.f13.f13)
 refine yC [1, 5] yX O (gV 0 O yX 12 ah O sizeOf79 O (jS 1 O yX (fun W hW => jX underlying79 O ((Kp.h hW)).get.2 O) (jG 2 O yX O (kD 3 O yX O (gV 4 O yX 12 ah O sizeOf79 O (jS 5 O yX (fun W hW => jX underlying79 O ((Kp.h hW).f9).get.2 O) (og 6 O (yF O func68 (mY KX.f10)) ?_)))))))
 rintro _ _ ⟨rfl, rfl⟩
 have CZ := V.kp (KX.f13.f13.f13.f13.f13.f13.f13.f13.f13.f13.f13.f13.f13)
 refine dU CZ (fun W hW => (Kp.h hW).f13.f13.f13.f13.f13.f13.f13.f13.f13.f13.f13.f13.f13) ?_
 refine og 7 O (yF O func123 (Hl KX.f2)) ?_
 rintro _ w21 Ir
 have Wp := V.kp (Ir.f13.f13.f13.f13.f13.f13.f13.f13.f13.f13.f13.f13.f13)
 refine gW Wp (by kernel_rfl) ?_
 refine qR (aX (jC O (dG results70 O ?_)))
 have VJ := Ir.f13.f13.f13.f13.f7.f12.f12.f12.f12.f12.f13
 have VK := V.iH (s := s) iw dD VJ
 exact ⟨_, O, VK.f2.right.f2.right⟩
end
def aaH (w0 : World) (name : ByteArray) (keys : List Int) (n : Int) (g : Bool) (s : dF) (M : VM) (Q : Int → dF → VM → Prop) : Prop := ∀ (F : HP) (W : World) (c m e : Nat) (kv lv : Value), V w0 W (VC c m e name kv n g lv s.c.pt • kQ 21 .i32 lv s.c.L • oL m M • gB e s • F) → jZ w0 F .i32 kv keys →
  gI prog 124 #[.pointer (some ⟨c, 0, none⟩)] W fun v W' => ∃ x t M', Q x t M' ∧ v = .int .i64 x ∧ V w0 W' (VC c m e name kv n g lv s.c.pt • kQ 21 .i32 lv s.c.L • oL m M' • gB e t • F)
def VM.did (M : VM) (name : ByteArray) (keys : List Int) (n x : Int) : VM := if (wu name ∨ oP name) ∧ x = 0 then { M with name := name, keys := keys, n := n, typed := [] } else M
def dF.Wq (t : dF) (x : Int) : Int := if x = 0 then t.Hg.zK t.Hf else t.zK x
def dF.doS (t : dF) (x : Int) : dF := if x = 0 then t.Hg.BD t.Hf else t.BD x
def VM.doM (M M' : VM) (name : ByteArray) (keys : List Int) (n x r : Int) : VM := if r = 0 then M'.did name keys n x else M
section
variable {w0 w : World} {F : HP} {c m e : Nat} {s : dF} {name : ByteArray} {kv lv : Value} {keys : List Int} {n p x : Int} {g : Bool} {M M' : VM} {Q : Int → dF → VM → Prop}
theorem KY (h : wu name ∨ oP name) (hx : x = 0) : M.did name keys n x = { M with name := name, keys := keys, n := n, typed := [] } := if_pos ⟨h, hx⟩
theorem BP (h : ¬ ((wu name ∨ oP name) ∧ x = 0)) : M.did name keys n x = M := if_neg h
theorem Tz (H : V w0 w (VC c m e name kv n g lv s.c.pt • kQ 21 .i32 lv s.c.L • oL m M • gB e s • F)) (hk : jZ w0 F .i32 kv keys) (h1 : aaH w0 name keys n g s M Q) (hkl : keys.length * 4 ≤ 140737488355328) (hw : nX name keys = 0) (hn : 1 ≤ n ∧ n ≤ 1000000) :
  gI prog 74 #[.pointer (some ⟨c, 0, none⟩)] w fun v w' => ∃ x t M', Q x t M' ∧ v = .int .i64 x ∧ V w0 w' (VC c m e name kv n g lv s.c.pt • kQ 21 .i32 lv s.c.L • oL m (M'.did name keys n x) • gB e t • F) := by
 refine gG func74 ntmps74 ?_
 refine jg O (bP O (dS O func124 (h1 _ _ _ _ _ _ _ H hk) ?_))
 rintro _ w1 ⟨x, t, M2, hQ, rfl, H1⟩
 refine vk O (bP O (dJ O (bD 2 dw O lN O (fG iW O (H1).get.2 O (dS O func125 (KW H1) ?_)))))
 rintro _ w2 ⟨rfl, H2⟩
 refine bQ O (rG O O (rG O O (fU O (gJ O (bP O (jP O (fun h1 => ?_) (fun h1 => ?_)))))))
 ·(try simp only [Z] at h1)
  refine bC (bQ O (bC (aV (dV O O) (jF O O (jh O (fun h2 => ?_) (fun h2 => ?_))))))
  ·(try simp only [Z] at h2)
   obtain ⟨Nk, Nl, Np, wz, wO⟩ := (H2.f3).vm
   have hcg : wu name ∨ oP name := by assumption
   have hx0 : x = 0 := by assumption
   have acp := wO.drew
   have tX := V.kp (acp.f7.f7.f7.f7.f7.f7.f7)
   refine yC [3, 7, 11, 16] tX O (jG 0 O tX O (kD 1 O tX O (gV 2 O tX 0 dw O sizeOf41 O (jS 3 O tX (fun W hW => jX lG O ((Kp.h hW).f5).get.2 O) (jG 4 O tX O (kD 5 O tX O (gV 6 O tX 2 dw O lN O (jS 7 O tX (fun W hW => jX iW O ((Kp.h hW).f5).get.2 O) (jG 8 O tX O (kD 9 O tX O (gV 10 O tX 3 dw O dH O (jS 11 O tX (fun W hW => jX aB O ((Kp.h hW).f5).get.2 O) (jG 13 O tX O (kD 14 O tX O (gV 15 O tX 4 dw O aj O (jS 16 O tX (fun W hW => jX aK O ((Kp.h hW).f5).get.2 O) (og 12 O (yF O func71 (pq acp (fun W HW => hk _ (HW.right.right.right.right.right.right.right)) (by omega))) ?_)))))))))))))))))
   rintro u4 w4 H4
   have xu := V.kp (H4.f8.f8.f8.f8.f8.f8.f8.f8)
   refine dU xu (fun W hW => (Kp.h hW).right.f7.f7.f7.f7.f7.f7.f7) ?_
   refine jB 17 O xu (fun _ => dP (zl := [.string .empty, .slice none 0 0, .int .i64 0, .slice none 0 0]) (pl := [(0, 1), (1, 1), (2, 1), (3, 1)]) [_, _, _, _] underlying117 zeroValue117 O (fun w => by kernel_rfl) O (.on (.one (Rd.one ((H4).aS)) (.on (.zero (zs := [.slice none 0 0]) O .nil)))) O) ?_
   refine kD 18 O xu O (gV 19 O xu 3 fC O sizeOf117 O ?_)
   refine fM 20 O (by kernel_rfl) (bU 3 (l' := [_, _, _, _, _, _, _, _]) (us := [_, _, _, _]) H4.f2 sizeOf117 O O O (ay (aW (by first | rfl | exact Rd.one ((H4).aS)) (ay (ay bF)))) O O) ?_
   rintro _ w5 H5
   have Bv := V.kp (H5.f8.f8.f8.f8.f8.f8.f8.f8)
   refine gW Bv (by kernel_rfl) ?_
   have XT := H5.f2
   have XU := XT.oI
   have Ho8 := XU.f3.f3
   have Yh := V.aas (M := { M2 with name := name, keys := keys, n := n, typed := [] }) ⟨hkl, by show ([] : List Int).length ≤ 1024; decide, .inr ⟨hcg, hw, hn.1, hn.2⟩⟩ rfl Ho8
   refine qR (aX (bP O (eY O (dG results74 O ?_))))
   exact ⟨_, _, M2, hQ, O, by first | (rw [KY hcg hx0]; exact Yh.f2.right.f2.right.f4.f2.f4.f4) | (rw [BP (fun hc => absurd hc.2 (by assumption))]; exact Yh.f2.right.f2.right.f4.f2.f4.f4) | (rw [BP (fun hc => absurd (decide_eq_true hc.1) (by simp only [*]; decide))]; exact Yh.f2.right.f2.right.f4.f2.f4.f4)⟩
  ·(try simp only [Z] at h2)
   refine fZ (bP O (eY O (dG results74 O ?_)))
   exact ⟨_, _, M2, hQ, O, by first | (rw [KY hcg hx0]; exact H2.f4.f4.f4.f4) | (rw [BP (fun hc => absurd hc.2 (by assumption))]; exact H2.f4.f4.f4.f4) | (rw [BP (fun hc => absurd (decide_eq_true hc.1) (by simp only [*]; decide))]; exact H2.f4.f4.f4.f4)⟩
 ·(try simp only [Z] at h1)
  refine bI (bI (iM O O (iJ (qy (fZ (bP O (eY O (dG results74 O ?_))))))))
  exact ⟨_, _, M2, hQ, O, by first | (rw [KY hcg hx0]; exact H2.f4.f4.f4.f4) | (rw [BP (fun hc => absurd hc.2 (by assumption))]; exact H2.f4.f4.f4.f4) | (rw [BP (fun hc => absurd (decide_eq_true hc.1) (by simp only [*]; decide))]; exact H2.f4.f4.f4.f4)⟩
theorem JF (s : dF) (h : lM s) : 1 ≤ max s.count 1 ∧ max s.count 1 ≤ 1000000 := by
  have h := h.2.2.1
  unfold dF.count
  dsimp only
  by_cases h1 : s.given = true <;> by_cases h2 : s.arg < 0 <;> by_cases h3 : s.minus = true <;> simp only [h1, h2, h3, if_true, if_false, Bool.false_eq_true] <;> omega
theorem Ws (H : V w0 w (gB e s • F)) : lM s := by
  obtain ⟨pb, pr, pw, pt, pm, ph, bl, pv, es, u0, u1, u2, u3, u4, u5, u6, u7, u8, u9, ua, h, _⟩ := H.Gp
  exact h
theorem Yi (H : V w0 w (oL m M • gB e s • F)) (hi : s.inn = false) (hk : jZ w0 F .i32 kv keys) (hkl : keys.length * 4 ≤ 140737488355328) (hw : nX name keys = 0) (hone : aaH w0 name keys (max s.jW.count 1) s.jW.given s.jW M Q) :
  gI prog 24 #[.pointer (some ⟨m, 0, none⟩), .pointer (some ⟨e, 0, none⟩), .string name, kv] w fun v w' => ∃ x t M', Q x t M' ∧ v = .int .i64 (t.Wq x) ∧ V w0 w' (oL m (M.doM M' name keys (max s.jW.count 1) x (t.Wq x)) • gB e (t.doS x) • F) := by
 refine XB func24 ntmps24 ?_
 refine jg O (aP (aY (bP O (dS O func69 (wX H) ?_))))
 rintro _ _ ⟨rfl, rfl⟩
 refine bQ O (bC (bQ O (bC (dS O func70 (IC H.f2 hi) ?_))))
 rintro _ w2 ⟨cl2, rfl, H2⟩
 refine bC (aV (fV iU O O) (iM O O (gJ O (Jk O (fun h1 => ?_)))))
 (try simp only [Z] at h1)
 refine bP O (bQ O (dS O func16 (BJ H2 (fun W HW => hk _ (HW.right.right))) ?_))
 rintro _ w3 ⟨rfl, H3⟩
 refine aV (dV O O) (gJ O (bJ O (fun h => by exfalso; (try simp only [Z] at h); rw [hw] at h; exact absurd h (by decide)) (fun h2 => ?_)))
 (try simp only [Z] at h2)
 refine bP O (bQ O (dS O func16 (BJ H3 (fun W HW => hk _ (HW.right.right))) ?_))
 rintro _ w4 ⟨rfl, H4⟩
 refine aV (iO O O) (gJ O (bJ O (fun h => by exfalso; (try simp only [Z] at h); exact h hw) (fun h3 => ?_)))
 (try simp only [Z] at h3)
 refine bY (aJ (aX (aP (bP O (dS O func29 (Dj H4) ?_)))))
 rintro _ w5 ⟨rfl, H5⟩
 refine gJ O (bP O (aV (iO O O) (jh O (fun h => by exfalso; (try simp only [Z] at h); exact h (by unfold dF.BA; rw [if_neg (by simp [hi])])) (fun h4 => ?_))))
 (try simp only [Z] at h4)
 refine fZ (bP O (dS O func38 (KN H5.f2) ?_))
 rintro _ w6 ⟨c6, rfl, H6⟩
 have hco := JF s.jW (Ws H6.f3)
 refine gJ O (bP O (jJ O O (bQ O (dS O func71 (pq H6 (fun W HW => hk _ (HW.right.right.right)) (by omega)) ?_))))
 rintro u7 w7 H7
 refine bQ O (dS O func72 (KO H7.f4) ?_)
 rintro _ w8 ⟨rfl, H8⟩
 refine aV (Ui O O) (bQ O (dS O func73 (KP H8) ?_))
 rintro _ w9 ⟨rfl, H9⟩
 refine aV (dP (zl := [.pointer none, .pointer none, .string .empty, .slice none 0 0, .int .i64 0, .bool false, .slice none 0 0, .int .i64 0]) (pl := [(0, 1), (1, 1), (2, 1), (3, 1), (4, 1), (5, 1), (6, 1), (7, 1)]) [_, _, _, _, _, _, _, _] dw zeroValue130 O (fun w => by kernel_rfl) O (.on (.on (.on (.one (Rd.one ((H9.f2).aS)) (.on (.on (.zero (zs := [.slice none 0 0]) O (.zero (zs := [.int .i64 0]) O .nil)))))))) O) ?_
 refine jr (iD (l := [_, _, _, _, _, _, _, _]) H9 O O) ?_
 rintro _ w10 ⟨b10, rfl, pV⟩
 refine gJ O (bP O (dS O func28 (zU pV.f2) ?_))
 rintro _ DU ⟨u11, rfl, qo⟩
 refine jr (fH (l := [_, _, _]) qo zeroValue46 O) ?_
 rintro _ w12 ⟨b12, rfl, um⟩
 refine aH (bU 0 (l' := [_, _, _]) (us := [_, _, _]) um sizeOf46 O O O (aW (by first | rfl | exact Rd.one ((um.f2).aS)) (ay (ay bF))) O O) ?_
 rintro _ Oz uS
 refine pJ ?_
 have Qb := uS.drew
 have uY := V.kp (Qb.f4.right.f6.f6.f6.f6.f6.f6)
 refine yC [3, 5] uY O (jG 0 O uY O (jG 1 O uY O (gV 2 O uY 0 jl O dH O (jS 3 O uY (fun W hW => jX aB O ((Kp.h hW)).get.2 O) (gV 4 O uY 1 jl O aj O (jS 5 O uY (fun W hW => jX aK O ((Kp.h hW)).get.2 O) (kD 6 O uY O (gV 7 O uY 6 dw O dH O ?_))))))))
 refine fM 8 O (by kernel_rfl) (eX 6 (l' := [_, _, _, _, _, _, _, _]) Qb.f4 dH O O (by first | rfl | exact Rd.one ((Qb.f2).aS)) O O) ?_
 rintro _ RV Ag
 have CV := V.kp (Ag.f7.f7.f7.f7.f7.f7.f7)
 refine dU CV (fun W hW => (Kp.h hW).right.f6.f6.f6.f6.f6.f6) ?_
 refine kD 9 O CV O (gV 10 O CV 7 dw O aj O ?_)
 refine fM 11 O (by kernel_rfl) (eX 7 (l' := [_, _, _, _, _, _, _, _]) Ag aj O O (by first | rfl | assumption) O O) ?_
 rintro _ Sr yM
 have uH := V.kp (yM.f7.f7.f7.f7.f7.f7.f7)
 refine gW uH (by kernel_rfl) ?_
 refine qR (aX (bP O (dS O func74 (Tz yM.f4.f7.f5.f4 (fun W HW => (HW.f2).aS) hone hkl hw hco) ?_)))
 rintro _ w16 ⟨x, t, M2, hQ, rfl, yH⟩
 refine vk O (bP O (aV (dV O O) (jh O (fun h5 => ?_) (fun h5 => ?_))))
 ·(try simp only [Z] at h5)
  have hx : x = 0 := h5
  refine aC (bQ O (dS O func75 (KU yH.f4.f2) ?_))
  rintro _ Zc ⟨rfl, Ig⟩
  refine vk O (bP O (bQ O (dS O func31 (BO Ig.f2) ?_)))
  rintro _ XF ⟨rfl, CG⟩
  refine gJ O (bP O (aV (iO O O) (jh O (fun h6 => ?_) (fun h6 => ?_))))
  ·(try simp only [Z] at h6)
   obtain ⟨Nk, Nl, Np, wz, wO⟩ := (CG.f4).vm
   obtain ⟨acq, acr, acs, Qc, Dq⟩ := (wO.f10).vm
   refine aC (jJ O O (dJ O (aV (eU fC O sizeOf119 O O (Dq).get.2) (dJ O (aH (bU 0 (l' := [_, _, _, _, _, _, _, _]) (us := [_, _, _, _, _, _, _, _]) Dq.f5 sizeOf119 O O O (ay (ay (ay (ay (aW (by first | rfl | exact Rd.one ((Dq.f3).jy)) (ay (aW (by first | rfl | exact Rd.one ((Dq.f4).jy)) (ay bF)))))))) O O) ?_)))))
   rintro _ w21 Ir
   have ad3 := Ir.f5.f5.f5.f4
   have Yj := V.Bc (M := M) Qc ad3
   refine qH O (eY O (dG results24 O ?_))
   refine ⟨x, t, M2, hQ, by unfold dF.Wq; first | rw [if_pos hx] | rw [if_neg hx], ?_⟩
   unfold VM.doM dF.Wq dF.doS
   first | (rw [if_pos hx, if_pos hx, if_pos (by assumption)]; exact Yj.f2.right.f2.right.f2.right.f2.right.f3.right.f3.right.f3.right.f3.right.f2.f2) | (rw [if_pos hx, if_pos hx, if_neg (by assumption)]; exact Yj.f2.right.f2.right.f2.right.f2.right.f3.right.f3.right.f3.right.f3.right.f2.f2) | (rw [if_neg hx, if_neg hx, if_pos (by assumption)]; exact Yj.f2.right.f2.right.f2.right.f2.right.f3.right.f3.right.f3.right.f3.right.f2.f2) | (rw [if_neg hx, if_neg hx, if_neg (by assumption)]; exact Yj.f2.right.f2.right.f2.right.f2.right.f3.right.f3.right.f3.right.f3.right.f2.f2)
  ·(try simp only [Z] at h6)
   refine fZ (bP O (eY O (dG results24 O ?_)))
   refine ⟨x, t, M2, hQ, by unfold dF.Wq; first | rw [if_pos hx] | rw [if_neg hx], ?_⟩
   unfold VM.doM dF.Wq dF.doS
   first | (rw [if_pos hx, if_pos hx, if_pos (by assumption)]; exact CG.f2.right.f2.right.f3.right.f3.right.f3.right.f2) | (rw [if_pos hx, if_pos hx, if_neg (by assumption)]; exact CG.f2.right.f2.right.f3.right.f3.right.f3.right.f2) | (rw [if_neg hx, if_neg hx, if_pos (by assumption)]; exact CG.f2.right.f2.right.f3.right.f3.right.f3.right.f2) | (rw [if_neg hx, if_neg hx, if_neg (by assumption)]; exact CG.f2.right.f2.right.f3.right.f3.right.f3.right.f2)
 ·(try simp only [Z] at h5)
  have hx : ¬ x = 0 := h5
  refine fZ (aP (bP O (bQ O (dS O func31 (BO yH.f4) ?_))))
  rintro _ w24 ⟨rfl, Xh⟩
  refine gJ O (bP O (aV (iO O O) (jh O (fun h7 => ?_) (fun h7 => ?_))))
  ·(try simp only [Z] at h7)
   obtain ⟨Nk, Nl, Np, wz, wO⟩ := (Xh.f4).vm
   obtain ⟨acq, acr, acs, Qc, Dq⟩ := (wO.f10).vm
   refine aC (jJ O O (dJ O (aV (eU fC O sizeOf119 O O (Dq).get.2) (dJ O (aH (bU 0 (l' := [_, _, _, _, _, _, _, _]) (us := [_, _, _, _, _, _, _, _]) Dq.f5 sizeOf119 O O O (ay (ay (ay (ay (aW (by first | rfl | exact Rd.one ((Dq.f3).jy)) (ay (aW (by first | rfl | exact Rd.one ((Dq.f4).jy)) (ay bF)))))))) O O) ?_)))))
   rintro _ w27 Nv
   have aaf := Nv.f5.f5.f5.f4
   have SH := V.Bc (M := M) Qc aaf
   refine qH O (eY O (dG results24 O ?_))
   refine ⟨x, t, M2, hQ, by unfold dF.Wq; first | rw [if_pos hx] | rw [if_neg hx], ?_⟩
   unfold VM.doM dF.Wq dF.doS
   first | (rw [if_pos hx, if_pos hx, if_pos (by assumption)]; exact SH.f2.right.f2.right.f2.right.f2.right.f3.right.f3.right.f3.right.f3.right.f2.f2) | (rw [if_pos hx, if_pos hx, if_neg (by assumption)]; exact SH.f2.right.f2.right.f2.right.f2.right.f3.right.f3.right.f3.right.f3.right.f2.f2) | (rw [if_neg hx, if_neg hx, if_pos (by assumption)]; exact SH.f2.right.f2.right.f2.right.f2.right.f3.right.f3.right.f3.right.f3.right.f2.f2) | (rw [if_neg hx, if_neg hx, if_neg (by assumption)]; exact SH.f2.right.f2.right.f2.right.f2.right.f3.right.f3.right.f3.right.f3.right.f2.f2)
  ·(try simp only [Z] at h7)
   refine fZ (bP O (eY O (dG results24 O ?_)))
   refine ⟨x, t, M2, hQ, by unfold dF.Wq; first | rw [if_pos hx] | rw [if_neg hx], ?_⟩
   unfold VM.doM dF.Wq dF.doS
   first | (rw [if_pos hx, if_pos hx, if_pos (by assumption)]; exact Xh.f2.right.f2.right.f3.right.f3.right.f3.right.f2) | (rw [if_pos hx, if_pos hx, if_neg (by assumption)]; exact Xh.f2.right.f2.right.f3.right.f3.right.f3.right.f2) | (rw [if_neg hx, if_neg hx, if_pos (by assumption)]; exact Xh.f2.right.f2.right.f3.right.f3.right.f3.right.f2) | (rw [if_neg hx, if_neg hx, if_neg (by assumption)]; exact Xh.f2.right.f2.right.f3.right.f3.right.f3.right.f2)
end
end Go.Proofs.YtpdeedplgmbopaaGreatDoor
end
section
namespace Go.Proofs.YtpdeedplgmbopaaGreatDoor
open Go.RowKit Go.Lib
def Yk : ByteArray := ⟨#[40, 91, 123, 41, 93, 125]⟩
def NQ : ByteArray := ⟨#[41, 93, 125]⟩
def NR : ByteArray := ⟨#[40, 91, 123]⟩
def yx (r : Int) : Int := if r = 40 then 0 else if r = 91 then 1 else if r = 123 then 2 else if r = 41 then 3 else if r = 93 then 4 else 5
theorem Fj {r : Int} (h : uT r = true) : r = 40 ∨ r = 91 ∨ r = 123 ∨ r = 41 ∨ r = 93 ∨ r = 125 := by unfold uT at h; simp at h; omega
theorem Rq {r : Int} : r ∈ D6 Yk ↔ uT r = true := by
  rw [show D6 Yk = [40, 91, 123, 41, 93, 125] from by rfl]
  unfold uT; simp; omega
theorem aaI {r : Int} (h : uT r = true) : indexByte Yk.data.toList (r % 256).toNat.toUInt8 = yx r := by
  rcases Fj h with rfl | rfl | rfl | rfl | rfl | rfl <;> rfl
theorem Wu (r : Int) : 0 ≤ yx r ∧ yx r ≤ 5 := by
  unfold yx
  repeat' split
  all_goals omega
theorem Fp {r : Int} (h : uT r = true) (hk : yx r < 3) : sb NQ (yx r % 3).toNat = D5 r ∧ C9 r = 1 := by
  rcases Fj h with rfl | rfl | rfl | rfl | rfl | rfl <;> first | exact ⟨rfl, rfl⟩ | exact absurd hk (by decide)
theorem Fq {r : Int} (h : uT r = true) (hk : 3 ≤ yx r) : sb NR (yx r - 3).toNat = D5 r ∧ C9 r = -1 := by
  rcases Fj h with rfl | rfl | rfl | rfl | rfl | rfl <;> first | exact ⟨rfl, rfl⟩ | exact absurd hk (by decide)
theorem Yl (r : Int) : C9 r = 1 ∨ C9 r = -1 := by unfold C9; split <;> simp
theorem Ym {r : Int} (h : uT r = true) : D5 r ≠ r := by rcases Fj h with rfl | rfl | rfl | rfl | rfl | rfl <;> decide
theorem Yn (i : Nat) : 0 ≤ sb NQ i ∧ sb NQ i < 128 := Zd (by decide) i
theorem Yo (i : Nat) : 0 ≤ sb NR i ∧ sb NR i < 128 := Zd (by decide) i
def wF (a b d x : Int) : Int := d + (if x = a then 1 else 0) - (if x = b then 1 else 0)
theorem TA {a b d x : Int} (h : wF a b d x = 0) : Gx a b d x = none := if_pos h
theorem Wv {a b d x : Int} (h : ¬ wF a b d x = 0) : Gx a b d x = some (wF a b d x) := if_neg h
theorem Yp {a b d x : Int} (h : x = a) (hab : b ≠ a) : wF a b d x = d + 1 := by unfold wF; rw [if_pos h, if_neg (by omega)]; omega
theorem Yq {a b d x : Int} (h : ¬ x = a) (hb : x = b) : wF a b d x = d - 1 := by unfold wF; rw [if_neg h, if_pos hb]; omega
theorem Yr {a b d x : Int} (h : ¬ x = a) (hb : ¬ x = b) : wF a b d x = d := by unfold wF; rw [if_neg h, if_neg hb]; omega
theorem Wx (a b d x : Int) : d - 1 ≤ wF a b d x ∧ wF a b d x ≤ d + 1 := by unfold wF; split <;> split <;> omega
section
variable {l : List Int} {x i j : Int}
theorem NS (h : (l.length : Int) ≤ jV (fun r => !uT r) l x) : vZ l x = (0, false, false) := if_pos h
theorem Bg (e : jV (fun r => !uT r) l x = i) (h : i < l.length) (hs : uJ (C9 (l.getD i.toNat 0)) (Gx (l.getD i.toNat 0) (D5 (l.getD i.toNat 0))) l 0 i = none) : vZ l x = (0, false, false) := by
  unfold vZ; rw [e, if_neg (by omega), hs]
theorem IE (e : jV (fun r => !uT r) l x = i) (h : i < l.length) (hs : uJ (C9 (l.getD i.toNat 0)) (Gx (l.getD i.toNat 0) (D5 (l.getD i.toNat 0))) l 0 i = some j) : vZ l x = (j, true, true) := by
  unfold vZ; rw [e, if_neg (by omega), hs]
end
section
variable {w0 w : World} {F : HP} {v : Value} {l : List Int} {x n key c r : Int} {s : ByteArray}
theorem TB (h : uT r = true) : gI Tryz.prog 98 #[.string ⟨#[40, 91, 123, 41, 93, 125]⟩, .int .u8 (r % 256)] w fun v w' => v = .int .i64 (yx r) ∧ w = w' := Dc.mono fun v w' h2 => ⟨h2.1.trans (congrArg (Value.int .i64) (aaI h)), h2.2⟩
theorem KZ (H : V w0 w F) (hr : jZ w0 F .i32 v l) (hx : 0 ≤ x ∧ x ≤ l.length) (Xi : l.length ≤ 4611686018427387904) : gI Tryz.prog 43 #[v, .int .i64 x] w fun u w' => u = SQ (vZ l x) ∧ V w0 w' F := by
 refine oq Tryz.func43 Tryz.ntmps43 ?_
 refine iE (fU O (fU O (vk O (bP O (gJ O (aY ?_))))))
 refine fF [(0, _)] (fun (i : Int) => [(7, .int .i64 i)]) (fun (i : Int) W => ((0 ≤ i ∧ i ≤ l.length) ∧ jV (fun r => !uT r) l i = jV (fun r => !uT r) l x) ∧ V w0 W F) (fun (i : Int) => (l.length - i).toNat) (x) lI lI ⟨⟨hx, O⟩, H⟩ ?_
 rintro i w1 ⟨⟨hi, hE⟩, HL⟩
 dsimp only [List.cons_append, List.nil_append]
 refine aP (bP O (bQ O (aV (jk (hr _ (HL)) aB O) (aV (iL O O) (jh O (fun h1 => ?_) (fun h1 => ?_))))))
 ·(try simp only [Z] at h1)
  refine fZ (aP (aY (aP (bP O (bQ O ?_)))))
  obtain ⟨bv, ov, cv, ev⟩ := fP.pW (hr _ (HL)) (by omega)
  cases ev
  refine aV (dI aB bT O O (by omega)) ?_
  refine aV (fA (dn bg O) O (by first | exact fP.lW (hr _ (HL)) (by omega) | exact fP.wK (hr _ (HL)) (by omega) | exact fP.wH (hr _ (HL)) (by omega))) ?_
  refine dS O Tryz.func50 (Df (s := Yk) (by decide)) ?_
  rintro _ _ ⟨rfl, rfl⟩
  refine aV (lY O) (jh O (fun h2 => ?_) (fun h2 => ?_))
  ·(try simp only [Z] at h2)
   have hno : uT (l.getD i.toNat 0) = false := by have h9 := h2; rw [← Bool.not_eq_true, ← Rq]; simpa using h9
   refine dB (aI (aZ (aX (aC (bQ O (aV (gy O O (by omega)) (fU O (bM ?_))))))))
   refine dL (i + 1) ?_ ?_ ?_ ?_
   ·exact lI
   ·exact lI
   ·(try dsimp only)
    first | done | exact ⟨⟨by omega, (qc hi.1 (by omega) (by show (!uT _) = true; rw [hno]; rfl)).symm.trans hE⟩, HL⟩
   ·(try dsimp only); omega
  ·(try simp only [Z] at h2)
   have hbr : uT (l.getD i.toNat 0) = true := by have h9 := h2; rw [← Rq]; simpa using h9
   have hR : jV (fun r => !uT r) l x = i := hE.symm.trans (kN hi.1 (by omega) (by show ¬ (!uT _) = true; rw [hbr]; decide))
   have hkb := Wu (l.getD i.toNat 0)
   refine fZ (bP O (bQ O (aV (dI aB bT O O (by omega)) ?_)))
   refine aV (fA (dn bg O) O (by first | exact fP.lW (hr _ (HL)) (by omega) | exact fP.wK (hr _ (HL)) (by omega) | exact fP.wH (hr _ (HL)) (by omega))) ?_
   refine aV (Jw O (by rw [Tryz.underlying21]; rfl) Tryz.underlying5) ?_
   refine dS O Tryz.func98 (TB hbr) ?_
   rintro _ _ ⟨rfl, rfl⟩
   refine vk O ?_
   have aaJ := HL.drew
   have Ho := V.kp (aaJ)
   refine yC [2] Ho O (jG 0 O Ho O ?_)
   refine jB 1 O Ho (fun _ => YR O O (by omega) (by  omega)) ?_
   refine jS 2 O Ho (fun W hW => Ey iW O O (by exact ⟨by omega, by show _ < (3 : Int); omega⟩)) ?_
   refine jB 3 O Ho (fun _ => yD O (by rw [Tryz.underlying5]; rfl) bg (Fe (by have := Yn (yx (l.getD i.toNat 0) % 3).toNat; show -2147483648 ≤ sb NQ _ ∧ sb NQ _ < 2147483648; omega))) ?_
   refine jB 4 O Ho (fun _ => dN O) (jB 5 O Ho (fun _ => dN O) (qR (aX ?_)))
   refine kM [(0, _), (7, _)] (fun (_ : Unit) => [(9, .int .i64 (C9 (l.getD i.toNat 0))), (10, .int .i32 (D5 (l.getD i.toNat 0)))]) (fun (_ : Unit) W => V w0 W F) qB ?_ ?_
   ·rintro _ w4 HJ
    dsimp only [List.cons_append, List.nil_append]
    have hst := Yl (l.getD i.toNat 0)
    have hne := Ym hbr
    refine jg O (aP (bP O (gJ O (aY ?_))))
    have hmi := D7 (n := l.length) (i := i) hst (by omega) (by omega)
    refine fF [(0, _), (7, _), (9, _), (10, _)] (fun (⟨j, d⟩ : Int × Int) => [(11, .int .i64 d), (12, .int .i64 j)]) (fun (⟨j, d⟩ : Int × Int) W => ((-1 ≤ j ∧ j ≤ l.length) ∧ (d + Ba (C9 (l.getD i.toNat 0)) l.length j ≤ l.length + 1 ∧ Ba (C9 (l.getD i.toNat 0)) l.length j - d ≤ l.length + 1) ∧ uJ (C9 (l.getD i.toNat 0)) (Gx (l.getD i.toNat 0) (D5 (l.getD i.toNat 0))) l 0 i = uJ (C9 (l.getD i.toNat 0)) (Gx (l.getD i.toNat 0) (D5 (l.getD i.toNat 0))) l d j) ∧ V w0 W F) (fun (⟨j, d⟩ : Int × Int) => (Ba (C9 (l.getD i.toNat 0)) l.length j).toNat) ((i, 0)) J3 qB ⟨⟨by omega, by omega, O⟩, HJ⟩ ?_
    rintro ⟨j, d⟩ w5 ⟨⟨hj, hd, hF⟩, HM⟩
    dsimp only [List.cons_append, List.nil_append]
    have hms := GH (n := l.length) (i := j) hst
    have hmp := fun h0 h1 => D7 (n := l.length) (i := j) hst h0 h1
    have hdb := Wx (l.getD i.toNat 0) (D5 (l.getD i.toNat 0)) d (l.getD j.toNat 0)
    refine aP (bP O (aV (lK O O) (jP O (fun h3 => ?_) (fun h3 => ?_))))
    ·(try simp only [Z] at h3)
     refine bC (bQ O (bC (bQ O (bC (aV (ny aB O) (bC (aV (iL O O) (jF O O (jh O (fun h4 => ?_) (fun h4 => ?_))))))))))
     ·(try simp only [Z] at h4)
      refine fZ (aP (aY ?_))
      refine kM [(0, _), (7, _), (9, _), (10, _), (12, _), (46, _), (47, _), (48, _), (49, _)] (fun (_ : Unit) => [(11, .int .i64 (wF (l.getD i.toNat 0) (D5 (l.getD i.toNat 0)) d (l.getD j.toNat 0)))]) (fun (_ : Unit) W => V w0 W F) (Sub.cons O (Sub.cons O (Sub.cons O TY))) ?_ ?_
      ·rintro _ w6 HK
       dsimp only [List.cons_append, List.nil_append]
       refine bP O (aV (dV O O) (jh O (fun h5 => ?_) (fun h5 => ?_)))
       ·(try simp only [Z] at h5)
        have hd0 : wF (l.getD i.toNat 0) (D5 (l.getD i.toNat 0)) d (l.getD j.toNat 0) = 0 := h5
        refine bP O (fU O (fU O (eY O (aT (aF (aF (aT (aF (aT (aF (aF (aT (aF ?_)))))))))))))
        refine gY (.inl O) Tryz.results43 O O O ?_
        exact ⟨by rw [IE hR (by omega) (hF.trans (Am (by omega) (by omega) (TA hd0)))]; rfl, HK⟩
       ·(try simp only [Z] at h5)
        have hd0 : ¬ wF (l.getD i.toNat 0) (D5 (l.getD i.toNat 0)) d (l.getD j.toNat 0) = 0 := h5
        refine bY (aJ (aX (aC (jJ O O (aV (gy O O (by omega)) (fU O (bM ?_)))))))
        refine dL (_, _) qB J3 (by (try dsimp only); exact ⟨⟨by omega, by omega, hF.trans (Gw hst (by omega) (by omega) (Wv hd0))⟩, HK⟩) ?_
        ·(try dsimp only); have := hmp (by omega) (by omega); omega
      ·skip
       refine aP ?_
       have hmq := hmp (by omega) (by omega)
       refine aC (jJ O O (aV (dI aB bT O O (by omega)) ?_))
       refine aV (fA (dn bg O) O (by first | exact fP.lW (hr _ (HM)) (by omega) | exact fP.wK (hr _ (HM)) (by omega) | exact fP.wH (hr _ (HM)) (by omega))) ?_
       refine iJ (aY (bP O (bQ O (aV (dI aB bT O O (by omega)) ?_))))
       refine aV (fA (dn bg O) O (by first | exact fP.lW (hr _ (HM)) (by omega) | exact fP.wK (hr _ (HM)) (by omega) | exact fP.wH (hr _ (HM)) (by omega))) ?_
       refine aV (dV O O) (gJ O (bJ O (fun h6 => ?_) (fun h6 => ?_)))
       ·(try simp only [Z] at h6)
        have ha : l.getD j.toNat 0 = l.getD i.toNat 0 := h6
        have hdN := Yp (d := d) ha hne
        refine aC (bQ O (aV (gy O O (by omega)) (fU O (bM (aJ ?_)))))
        refine dh (()) ?_ ?_ ?_
        ·exact (Sub.jE O (by rw [hdN]) (Sub.nil _))
        ·exact (Sub.cons O (Sub.cons O (Sub.cons O TY)))
        ·(try dsimp only)
         first | done | exact HM
       ·(try simp only [Z] at h6)
        have ha : ¬ l.getD j.toNat 0 = l.getD i.toNat 0 := h6
        refine bP O (aV (dV O O) (gJ O (bJ O (fun h7 => ?_) (fun h7 => ?_))))
        ·(try simp only [Z] at h7)
         have hdN := Yq (d := d) ha h7
         refine aC (bQ O (aV (kX O O (by omega)) (fU O (bM (aJ ?_)))))
         refine dh (()) ?_ ?_ ?_
         ·exact (Sub.jE O (by rw [hdN]) (Sub.nil _))
         ·exact (Sub.cons O (Sub.cons O (Sub.cons O TY)))
         ·(try dsimp only)
          first | done | exact HM
        ·(try simp only [Z] at h7)
         have hdN := Yr (d := d) ha h7
         refine bY (aJ ?_)
         refine dh (()) ?_ ?_ ?_
         ·exact (Sub.jE O (by rw [hdN]) (Sub.nil _))
         ·exact (Sub.cons O (Sub.cons O (Sub.cons O TY)))
         ·(try dsimp only)
          first | done | exact HM
     ·(try simp only [Z] at h4)
      refine dB (aI (aI (aZ (aX (iE (fU O (fU O (eY O (aT (aF (aF (aT (aF ?_)))))))))))))
      refine gY (.inl O) Tryz.results43 O O O ?_
      exact ⟨by rw [Bg hR (by omega) (hF.trans (Ak (by omega)))]; rfl, HM⟩
    ·(try simp only [Z] at h3)
     refine bI (bI (bI (bI (iM O O (iJ (qy (dB (aI (aI (aZ (aX (iE (fU O (fU O (eY O (aT (aF (aF (aT (aF ?_))))))))))))))))))))
     refine gY (.inl O) Tryz.results43 O O O ?_
     exact ⟨by rw [Bg hR (by omega) (hF.trans (Ak (by omega)))]; rfl, HM⟩
   ·skip
    refine bP O (aV (lK O O) (jh O (fun h8 => ?_) (fun h8 => ?_)))
    ·(try simp only [Z] at h8)
     have hk3 : 3 ≤ yx (l.getD i.toNat 0) := h8
     have acu := aaJ.drew
     have Hr := V.kp (acu)
     refine yC [2] Hr O (jG 0 O Hr O (jB 1 O Hr (fun _ => kX O O (by omega)) ?_))
     refine jS 2 O Hr (fun W hW => Ey iW O O (by exact ⟨by omega, by show _ < (3 : Int); omega⟩)) ?_
     refine jB 3 O Hr (fun _ => yD O (by rw [Tryz.underlying5]; rfl) bg (Fe (by have := Yo (yx (l.getD i.toNat 0) - 3).toNat; show -2147483648 ≤ sb NR _ ∧ sb NR _ < 2147483648; omega))) ?_
     refine jB 4 O Hr (fun _ => dN O) (jB 5 O Hr (fun _ => dN O) (qR ?_))
     refine dh (()) ?_ ?_ ?_
     ·exact (Sub.jE O (by first | exact congrArg (Value.int .i64) (Fp hbr (by assumption)).2.symm | exact congrArg (Value.int .i64) (Fq hbr (by assumption)).2.symm) (Sub.jE O (by first | exact congrArg (Value.int .i32) (Fp hbr (by assumption)).1 | exact congrArg (Value.int .i32) (Fq hbr (by assumption)).1) (Sub.nil _)))
     ·exact qB
     ·(try dsimp only)
      first | done | exact acu
    ·(try simp only [Z] at h8)
     have hk3 : yx (l.getD i.toNat 0) < 3 := by have h9 := h8; omega
     refine bY ?_
     refine dh (()) ?_ ?_ ?_
     ·exact (Sub.jE O (by first | exact congrArg (Value.int .i64) (Fp hbr (by assumption)).2.symm | exact congrArg (Value.int .i64) (Fq hbr (by assumption)).2.symm) (Sub.jE O (by first | exact congrArg (Value.int .i32) (Fp hbr (by assumption)).1 | exact congrArg (Value.int .i32) (Fq hbr (by assumption)).1) (Sub.nil _)))
     ·exact qB
     ·(try dsimp only)
      first | done | exact aaJ
 ·(try simp only [Z] at h1)
  refine dB (aI (aI (aZ (aX (iE (fU O (fU O (eY O ?_))))))))
  refine gY (.inl O) Tryz.results43 O O O ?_
  exact ⟨by rw [NS (by rw [← hE, jo (by omega)]; omega)]; rfl, HL⟩
end
end Go.Proofs.YtpdeedplgmbopaaGreatDoor
end
section
namespace Go.Proofs.YtpdeedplgmbopaaGreatDoor
open Go.RowKit
open _root_.Go.Proofs.Tryz
def Ht (w0 : World) (fv : Value) (g : List Int → Int → Bool → Int) (I : List Int → Int → Prop) : Prop := fv.oneCell' = true ∧ ∀ (F : HP) (W : World) (v : Value) (l : List Int) (x : Int) (b : Bool), V w0 W F → jZ w0 F .i32 v l → l.length ≤ 4611686018427387904 → I l x →
  qU prog fv [v, .int .i64 x, .bool b] W fun u W' => (u = .int .i64 (g l x b) ∧ I l (g l x b)) ∧ V w0 W' F
def Rt (w0 : World) (fv : Value) (m : List Int → Int → Bool) : Prop := fv.oneCell' = true ∧ ∀ (F : HP) (W : World) (v : Value) (l : List Int) (x : Int), V w0 W F → jZ w0 F .i32 v l →
  qU prog fv [v, .int .i64 x] W fun u W' => u = .bool (m l x) ∧ V w0 W' F
def inL (l : List Int) (x : Int) : Prop := 0 ≤ x ∧ x ≤ l.length
def acv (l : List Int) (x : Int) : Prop := 0 ≤ x ∧ x < l.length
section
variable {w0 : World}
theorem JG (hT : yG w0) : Ht w0 (.func (.func 95) #[] #[]) wV inL :=
  ⟨rfl, fun F W v l x b H hr hl hx => ⟨95, [], [], _, _, rfl, func95, rfl, rfl, (SL H hr hT hx.1 hx.2).mono fun u W' h => ⟨⟨h.1, by have := Vq l b hx.1 hx.2; exact ⟨Int.le_trans hx.1 this.1, this.2⟩⟩, h.2⟩⟩⟩
theorem JH (hT : yG w0) : Ht w0 (.func (.func 96) #[] #[]) zf inL :=
  ⟨rfl, fun F W v l x b H hr hl hx => ⟨96, [], [], _, _, rfl, func96, rfl, rfl, (SN H hr hT hx.1 hx.2).mono fun u W' h => ⟨⟨h.1, by have := Vr l b hx.1 hx.2; exact ⟨this.1, Int.le_trans this.2 hx.2⟩⟩, h.2⟩⟩⟩
theorem step_end (hT : yG w0) : Ht w0 (.func (.func 97) #[] #[]) ER acv :=
  ⟨rfl, fun F W v l x b H hr hl hx => ⟨97, [], [], _, _, rfl, func97, rfl, rfl, (Vp H hr hT hx.1 (Int.le_of_lt hx.2) hl).mono fun u W' h => ⟨⟨h.1, by have := X0 l b hx.1 hx.2; exact ⟨Int.le_trans hx.1 this.1, this.2⟩⟩, h.2⟩⟩⟩
end
section
variable {w0 w : World} {F : HP} {v : Value} {l : List Int} {x : Int}
theorem Qd (H : V w0 w F) (hr : jZ w0 F .i32 v l) : gI prog 92 #[v, .int .i64 x] w fun u w' => u = .bool (decide (x < l.length)) ∧ V w0 w' F := by
  refine oq func92 ntmps92 ?_
  refine jg O (bP O (bQ O (aV (jk (hr _ (H)) aB O) (aV (iL O O) (eY O (dG results92 O ?_))))))
  exact ⟨O, H⟩
theorem TD (H : V w0 w F) (hr : jZ w0 F .i32 v l) : gI prog 93 #[v, .int .i64 x] w fun u w' => u = .bool (decide (0 < x)) ∧ V w0 w' F := by
  refine oq func93 ntmps93 ?_
  refine jg O (bP O (aV (iV O O) (eY O (dG results93 O ?_))))
  exact ⟨O, H⟩
theorem Qe (H : V w0 w F) (hr : jZ w0 F .i32 v l) : gI prog 94 #[v, .int .i64 x] w fun u w' => u = .bool (decide (x < (l.length : Int) - 1)) ∧ V w0 w' F := by
  have Xi : l.length ≤ 9223372036854775807 := by have := (hr _ H).open; obtain ⟨a, c, e, h3, h4, _⟩ := this; omega
  refine oq func94 ntmps94 ?_
  refine jg O (bP O (bQ O (aV (jk (hr _ (H)) aB O) (aV (kX O O (by omega)) (aV (iL O O) (eY O (dG results94 O ?_)))))))
  exact ⟨O, H⟩
end
section
variable {w0 : World}
theorem Hu : Rt w0 (.func (.func 92) #[] #[]) fun l x => decide (x < l.length) := ⟨rfl, fun F W v l x H hr => ⟨92, [], [], _, _, rfl, func92, rfl, rfl, Qd H hr⟩⟩
theorem JI : Rt w0 (.func (.func 93) #[] #[]) fun l x => decide (0 < x) := ⟨rfl, fun F W v l x H hr => ⟨93, [], [], _, _, rfl, func93, rfl, rfl, TD H hr⟩⟩
theorem Hw : Rt w0 (.func (.func 94) #[] #[]) fun l x => decide (x < (l.length : Int) - 1) := ⟨rfl, fun F W v l x H hr => ⟨94, [], [], _, _, rfl, func94, rfl, rfl, Qe H hr⟩⟩
end
section
variable {w0 w : World} {F : HP} {v fv : Value} {l : List Int} {x n : Int} {g : Int → Int} {I : Int → Prop}
theorem Qg (H : V w0 w F) (hf : ∀ W y, V w0 W F → I y → qU prog fv [.int .i64 y] W fun u W' => (u = .int .i64 (g y) ∧ I (g y)) ∧ V w0 W' F) (hx : I x) (hn : n ≤ 9223372036854775807) : gI prog 90 #[.int .i64 x, .int .i64 n, fv] w fun u w' => u = .int .i64 (yu g n.toNat x) ∧ V w0 w' F := by
 refine FM func90 ntmps90 ?_
 refine jg O (aP (bP O (bQ O (iJ (aY ?_)))))
 refine fF [(2, _), (8, _)] (fun (⟨k, y⟩ : Nat × Int) => [(0, .int .i64 y), (9, .int .i64 (k : Int))]) (fun (⟨k, y⟩ : Nat × Int) W => ((k : Int) ≤ max n 0 ∧ I y ∧ yu g n.toNat x = yu g (n.toNat - k) y) ∧ V w0 W F) (fun (⟨k, y⟩ : Nat × Int) => n.toNat - k) ((0, x)) qB qB ⟨⟨by omega, hx, O⟩, H⟩ ?_
 rintro ⟨k, y⟩ w1 ⟨⟨hk, hy, he⟩, HL⟩
 dsimp only [List.cons_append, List.nil_append]
 refine iE (aV (iL O O) (pJ (bJ O (fun h1 => ?_) (fun h1 => ?_))))
 ·(try simp only [Z] at h1)
  refine fZ (aP (aY (bP O (bQ O (jr (nI O O (hf _ _ HL hy)) ?_)))))
  rintro _ w2 ⟨⟨rfl, hgy⟩, H2⟩
  refine vk O (bP O (bQ O (aV (dV O O) (jh O (fun h2 => ?_) (fun h2 => ?_)))))
  ·(try simp only [Z] at h2)
   have heq : g y = y := h2
   refine dB (aI ?_)
   refine AO (by decide) ?_
   refine aI (aI (aZ (aX (bP O (eY O (dG results90 O ?_))))))
   exact ⟨by rw [he]; first | rw [Gy heq] | (rw [show n.toNat - k = 0 from by omega]; rfl), H2⟩
  ·(try simp only [Z] at h2)
   have hne : ¬ g y = y := h2
   refine fZ (aC (bQ O (fU O (bM (aJ (aX (aC (aV (gy O O (by omega)) (bQ O (bM ?_))))))))))
   refine dL ((k + 1, g y)) ?_ ?_ ?_ ?_
   ·exact qB
   ·exact qB
   ·(try dsimp only)
    first | done | exact ⟨⟨by omega, hgy, by rw [he, PE (by omega) hne]; rfl⟩, H2⟩
   ·(try dsimp only); omega
 ·(try simp only [Z] at h1)
  refine dB (aI (aI (aZ (aX (bP O (eY O (dG results90 O ?_)))))))
  exact ⟨by rw [he]; first | rw [Gy heq] | (rw [show n.toNat - k = 0 from by omega]; rfl), HL⟩
end
structure MP where
  ps : Nat
  pb : Nat
  pw : Nat
  pm : Nat
def NT (p : MP) : Value := .func (.func 89) #[] #[.pointer (some ⟨p.pm, 0, none⟩), .pointer (some ⟨p.ps, 0, none⟩), .pointer (some ⟨p.pb, 0, none⟩), .pointer (some ⟨p.pw, 0, none⟩)]
def mZ (p : MP) (sv : Value) (b t : Bool) (mv : Value) : HP := dK p.pm (.cells #[mv] 66 (0, 0)) • dK p.pw (.cells #[.bool t] 4 (0, 0)) • dK p.pb (.cells #[.bool b] 4 (0, 0)) • dK p.ps (.cells #[sv] 141 (0, 0))
section
variable {w0 w : World} {F : HP} {v sv mv : Value} {l : List Int} {x n : Int} {b t : Bool} {p : MP} {ps pl pb pw pm : Nat} {g : List Int → Int → Bool → Int} {I : List Int → Int → Prop} {m : List Int → Int → Bool}
theorem Qh (H : V w0 w (dK ps (.cells #[sv] 141 (0, 0)) • dK pl (.cells #[v] 22 (0, 0)) • dK pb (.cells #[.bool b] 4 (0, 0)) • F)) (hf : Ht w0 sv g I) (hr : jZ w0 F .i32 v l) (hl : l.length ≤ 4611686018427387904) (hx : I l x) :
    gI prog 91 #[.int .i64 x, .pointer (some ⟨ps, 0, none⟩), .pointer (some ⟨pl, 0, none⟩), .pointer (some ⟨pb, 0, none⟩)] w fun u w' => (u = .int .i64 (g l x b) ∧ I l (g l x b)) ∧ V w0 w' (dK ps (.cells #[sv] 141 (0, 0)) • dK pl (.cells #[v] 22 (0, 0)) • dK pb (.cells #[.bool b] 4 (0, 0)) • F) := by
  refine TW func91 ntmps91 ?_
  dsimp only [vJ, Nat.reduceAdd]
  refine jg O (iE (fG underlying141 O (H).get.2 O (fG aB O (H.f2).get.2 O (bQ O (fG bK O (H.f3).get.2 O (jr (nI O O (hf.2 _ _ _ l _ _ H (fun W HW => hr _ (HW.right.right.right)) hl hx)) ?_))))))
  rintro _ w1 ⟨⟨rfl, hgx⟩, H1⟩
  refine eY O (dG results91 O ?_)
  exact ⟨⟨O, hgx⟩, H1⟩
theorem yA (H : V w0 w (mZ p sv b t mv • F)) (hf : Ht w0 sv g I) (hm : Rt w0 mv m) (hI : ∀ y, m l y = true → inL l y → I l y) (hr : jZ w0 F .i32 v l) (hl : l.length ≤ 4611686018427387904) (hx : inL l x) (hn : n ≤ 9223372036854775807) :
  qU prog (NT p) [v, .int .i64 x, .int .i64 n] w fun u w' => u = SQ (if m l x = true then (yu (fun y => g l y b) n.toNat x, t, true) else (0, false, false)) ∧ V w0 w' (mZ p sv b t mv • F) := by
 obtain ⟨ps, pb, pw, pm⟩ := p
 refine ⟨_, [], _, _, _, O, func89, O, O, ?_⟩
 have H0 : V w0 w (dK pm (.cells #[mv] 66 (0, 0)) • dK pw (.cells #[.bool t] 4 (0, 0)) • dK pb (.cells #[.bool b] 4 (0, 0)) • dK ps (.cells #[sv] 141 (0, 0)) • F) := H.of_eq (by unfold mZ; simp only [bW])
 have hback : ∀ {W : World}, V w0 W (dK pm (.cells #[mv] 66 (0, 0)) • dK pw (.cells #[.bool t] 4 (0, 0)) • dK pb (.cells #[.bool b] 4 (0, 0)) • dK ps (.cells #[sv] 141 (0, 0)) • F) → V w0 W (mZ ⟨ps, pb, pw, pm⟩ sv b t mv • F) := fun h => h.of_eq (by unfold mZ; simp only [bW])
 simp only [List.nil_append, List.cons_append]
 refine TW func89 ntmps89 ?_
 dsimp only [vJ, Nat.reduceAdd]
 refine iE (jr (iD (l := [_]) H0 O (by first | rfl | exact Af (by first | rfl | exact Rd.one (hr _ (H0.right.right.right.right))))) ?_)
 rintro _ w1 ⟨b1, rfl, H1⟩
 refine fU O (fU O (vk O (iE (fG underlying66 O (H1.f2).get.2 O (fG aB O (H1).get.2 O (bQ O (jr (nI O O (hm.2 _ _ _ l _ H1 (fun W HW => hr _ (HW.right.right.right.right.right)))) ?_)))))))
 rintro _ w2 ⟨rfl, H2⟩
 refine aV (lY O) (jh O (fun h1 => ?_) (fun h1 => ?_))
 ·(try simp only [Z] at h1)
  have hno : ¬ m l x = true := by have h9 := h1; simpa using h9
  refine iE (fU O (fU O (eY O (aF ?_))))
  refine gY (.inl O) results89 O O O ?_
  exact ⟨by rw [if_neg hno]; rfl, hback H2.right.f4.f4.f4.f4⟩
 ·(try simp only [Z] at h1)
  have hyes : m l x = true := by have h9 := h1; simpa using h9
  refine fZ (aP ?_)
  have AA := H2.drew
  have gX := V.kp (AA.f5.f5.f5.f5.f5)
  refine yC [4] gX O (jG 0 O gX O (jG 1 O gX O (jB 2 O gX (fun _ => vN O O) (jS 4 O gX (fun W hW => jX bK O ((Kp.h hW).f3).get.2 O) (og 3 O (yF O func90 (Qg (g := fun y => g l y b) (I := I l) AA (fun W y HW hy => ⟨_, [], _, _, _, O, func91, O, O, (Qh (F := dK pm (.cells #[mv] 66 (0, 0)) • dK pw (.cells #[.bool t] 4 (0, 0)) • F) (HW.of_eq (by ac_rfl)) hf (fun W HW => hr W HW.right.right) hl hy).mono fun u W2 h => ⟨h.1, h.2.of_eq (by ac_rfl)⟩⟩) (hI x hyes hx) hn)) ?_)))))
  rintro _ w3 ⟨rfl, H3⟩
  have yJ := V.kp (H3.f5.f5.f5.f5.f5)
  refine dU yJ (fun W hW => (Kp.h hW).f5.f5.f5.f5.f5) ?_
  refine jB 5 O yJ (fun _ => dN O) (jB 6 O yJ (fun _ => dN O) (jB 7 O yJ (fun _ => dN O) (qR (aX (mD ?_)))))
  refine gY (.inl O) results89 O O O ?_
  exact ⟨by rw [if_pos hyes]; rfl, hback H3.right.f4.f4.f4.f4⟩
end
end Go.Proofs.YtpdeedplgmbopaaGreatDoor
end
