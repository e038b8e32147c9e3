import Derived.Test.YtpdeedplgmbopaaGreatDoorZ4
import Derived.Test.YtpdeedplgmbopaaGreatDoorZ12
import Derived.Test.YtpdeedplgmbopaaGreatDoorZ16
import Derived.Test.YtpdeedplgmbopaaGreatDoorZ13
import Derived.Test.YtpdeedplgmbopaaGreatDoorZ15
import Derived.Test.YtpdeedplgmbopaaGreatDoorZ14
import Derived.Test.YtpdeedplgmbopaaGreatDoorZ11
import Derived.Test.YtpdeedplgmbopaaGreatDoorZ10
import Derived.Test.YtpdeedplgmbopaaGreatDoorZ8
set_option linter.unusedSimpArgs false
set_option linter.unusedVariables false
/- Texts of mine, joined, their names in short: VD Atom2 EdCl VDo VB VGo. -/
section
namespace Go.Proofs.YtpdeedplgmbopaaGreatDoor
open Go.RowKit
open _root_.Go.Proofs.Tryz
abbrev VC (c m e : Nat) (name : ByteArray) (kv : Value) (n : Int) (g : Bool) (lv : Value) (p : Int) : HP := dS c (.cells #[.pointer (some ⟨m, 0, none⟩), .pointer (some ⟨e, 0, none⟩), .string name, kv, .int .i64 n, .bool g, lv, .int .i64 p] 130 (0, 0))
namespace dN
variable (s : dN)
def Ag : Prop := s.c.mode = 2 ∧ 0 < s.c.L.length ∧ s.c.pt = s.c.L.length
instance : Decidable s.Ag := by unfold Ag; infer_instance
def IZ : Int := if s.Ag then s.KA ((s.c.L.length : Int) - 1) else 0
def I4 : dN := if s.Ag then s.FI ((s.c.L.length : Int) - 1) else s
end dN
section
variable {w0 w : World} {F : HP} {c m e : Nat} {s : dN} {name : ByteArray} {kv lv : Value} {n p : Int} {g : Bool}
theorem MI (H : V w0 w (VC c m e name kv n g lv p • iC e s • F)) : ig prog 75 #[.pointer (some ⟨c, 0, none⟩)] w fun v w' => v = .int .i64 s.IZ ∧ V w0 w' (VC c m e name kv n g lv p • iC e s.I4 • F) := by
 have SC : s.c.L.length ≤ 1024 := by
  obtain ⟨pb, pr, pw, pt, pm, ph, bl, pv, es, u0, u1, u2, u3, u4, u5, u6, u7, u8, u9, ua, h, _, _, H2⟩ := H.f2.Ik
  obtain ⟨a, c, xs, f, t, h1, h2, h3, h4, h5, h6, h7, _⟩ := H2.f2.buf
  exact h4
 refine iK func75 ntmps75 ?_
 refine jy O (bM O (dQ O (bK 1 dI O sizeOf37 O (gJ kU O (H).get.2 O (dX O func28 (Bh H.f2) ?_)))))
 rintro _ w1 ⟨u1, rfl, H1⟩
 refine jL (gK (l := [_, _, _]) H1 zeroValue46 O) ?_
 rintro _ w2 ⟨b2, rfl, H2⟩
 refine aO (dw 0 (l' := [_, _, _]) (us := [_, _, _]) H2 sizeOf46 O O O (bf (by first | rfl | exact Rd.one ((H2.f2).aY)) (aH (aH bP))) O O) ?_
 rintro _ w3 H3
 refine qW (bM O (dQ O (bK 1 dI O sizeOf37 O (gJ kU O (H3.f4).get.2 O (dX O func23 (MH H3.f3) ?_)))))
 rintro _ w4 ⟨u4, ks4, us4, sv4, rfl, H4⟩
 refine Z (FQ 3 iQ O O (bT aP O) O O) (Z (cZ O O) (iZ O (fun h1 => ?_) (fun h1 => ?_)))
 ·(try simp only [aC] at h1)
  refine bg (bK 0 jR O dV O (bg (gJ aj O (H4.f6).get.2 O (bg (Z (fO ((H4.f7).aY) aj O) (bg (Z (iw O O) (iM O O (iZ O (fun h2 => ?_) (fun h2 => ?_))))))))))
  ·(try simp only [aC] at h2)
   refine bg (bK 1 jR O aF O (bg (gJ aP O (H4.f6).get.2 O (bg (bK 0 jR O dV O (bg (gJ aj O (H4.f6).get.2 O (bg (Z (fO ((H4.f7).aY) aj O) (bg (Z (cZ O O) (iM O O (gQ O (fun h3 => ?_) (fun h3 => ?_))))))))))))))
   ·(try simp only [aC] at h3)
    refine aK ?_
    have abn := H4.drew
    have En := V.kp (abn.f8.f8.f8.f8.f8.f8.f8.f8)
    refine yY [3, 5] En O (jW 0 O En O (kV 1 O En O (iJ 2 O En 1 dI O sizeOf37 O (kK 3 O En (fun W hW => kQ kU O ((Kp.h hW).f8).get.2 O) (iJ 4 O En 0 jR O dV O (kK 5 O En (fun W hW => kQ aj O ((Kp.h hW).f6).get.2 O) (jQ 6 O En (fun _ => fO ((abn.f7).aY) aj O) (jQ 7 O En (fun _ => iG O O (by omega)) (oV 8 O (zx O func30 (FM abn.f5)) ?_)))))))))
    rintro _ w5 ⟨rfl, H5⟩
    have AQ := V.kp (H5.f8.f8.f8.f8.f8.f8.f8.f8)
    refine iD AQ (by kernel_rfl) ?_
    refine jQ 9 O AQ (fun _ => dY O) (sK (aW (mg (ay (dF results75 O ?_)))))
    have hp : s.Ag := by unfold dN.Ag; omega
    exact ⟨by unfold dN.IZ; rw [if_pos hp], by unfold dN.I4; rw [if_pos hp]; exact H5.f2.right.f2.right.f2.right.f2.right.f2.right.f2.right.f2⟩
   ·(try simp only [aC] at h3)
    refine fG (jB O (dF results75 O ?_))
    have hp : ¬ s.Ag := by unfold dN.Ag; omega
    exact ⟨by unfold dN.IZ; rw [if_neg hp], by unfold dN.I4; rw [if_neg hp]; exact H4.right.right.right.right.f2.right.f2.right.f2⟩
  ·(try simp only [aC] at h2)
   refine bn (bn (bn (bn (bn (bn (gI O O (iy (oD (fG (jB O (dF results75 O ?_)))))))))))
   have hp : ¬ s.Ag := by unfold dN.Ag; omega
   exact ⟨by unfold dN.IZ; rw [if_neg hp], by unfold dN.I4; rw [if_neg hp]; exact H4.right.right.right.right.f2.right.f2.right.f2⟩
 ·(try simp only [aC] at h1)
  refine bn (bn (bn (bn (gI O O (bG O (bn (bn (bn (bn (bn (bn (gI O O (iy (oD (fG (jB O (dF results75 O ?_)))))))))))))))))
  have hp : ¬ s.Ag := by unfold dN.Ag; omega
  exact ⟨by unfold dN.IZ; rw [if_neg hp], by unfold dN.I4; rw [if_neg hp]; exact H4.right.right.right.right.f2.right.f2.right.f2⟩
theorem MJ (H : V w0 w F) : ig prog 125 #[.string name] w fun v w' => v = .tuple #[.bool (decide (xG name ∨ qH name)), .bool (decide (xG name))] ∧ V w0 w' F := by
  refine iK func125 ntmps125 ?_
  refine gW (dL O (tX O (bM O (iy (aV ?_)))))
  refine iY [(4, _)] (fun (_ : Unit) => [(5, .bool (decide (xG name)))]) (fun (_ : Unit) W => V w0 W F) ji ?_ ?_
  · rintro _ w1 HJ
    dsimp only [List.cons_append, List.nil_append]
    refine bI O (fun h1 => ?_) (fun h1 => ?_)
    · (try simp only [aC] at h1)
      refine gW (dL O (dU O (aN (ay (Az results125 O O ?_)))))
      have ht : xG name := by assumption
      exact ⟨by rw [decide_eq_true ht, decide_eq_true (Or.inl ht)], HJ⟩
    · (try simp only [aC] at h1)
      refine iY [] (fun (_ : Unit) => [(10, .bool (decide (qH name)))]) (fun (_ : Unit) W => V w0 W F) (Sub.nil _) ?_ ?_
      · rintro _ w2 HK
        dsimp only [List.cons_append, List.nil_append]
        refine bI O (fun h2 => ?_) (fun h2 => ?_)
        · (try simp only [aC] at h2)
          refine gW (dL O (dU O (aN (ay (Az results125 O O ?_)))))
          have ht : ¬ xG name := by assumption
          have hc : qH name := by assumption
          exact ⟨by rw [decide_eq_false ht, decide_eq_true (Or.inr hc)], HK⟩
        · (try simp only [aC] at h2)
          refine bY (aG (aW (gW (dL O (dU O (Az results125 O O ?_))))))
          have ht : ¬ xG name := by assumption
          have hc : ¬ qH name := by assumption
          exact ⟨by rw [decide_eq_false ht, decide_eq_false (fun h => h.elim ht hc)], HK⟩
      · skip
        refine gW (Z (gY O O) (fV O (bI O (fun h3 => ?_) (fun h3 => ?_))))
        · (try simp only [aC] at h3)
          refine bY ?_
          refine cO (()) ?_ ?_ ?_
          · exact (Sub.eP O (by first | exact qG (beq_iff_eq.2 (by assumption)) (by unfold qH; first | exact .inl (by assumption) | exact .inr (.inl (by assumption)) | exact .inr (.inr (.inl (by assumption))) | exact .inr (.inr (.inr (.inl (by assumption)))) | exact .inr (.inr (.inr (.inr (by assumption))))) | exact congrArg Value.bool (by rw [Bool.eq_iff_iff, decide_eq_true_iff, beq_iff_eq]; unfold qH; exact ⟨fun h => .inr (.inr (.inr (.inr h))), fun h => by rcases h with h | h | h | h | h <;> first | exact h | exact absurd h (by assumption)⟩)) (Sub.nil _))
          · exact (Sub.nil _)
          · (try dsimp only)
            first | done | exact HJ
        · (try simp only [aC] at h3)
          refine gW (Z (gY O O) (fV O (bI O (fun h4 => ?_) (fun h4 => ?_))))
          · (try simp only [aC] at h4)
            refine bY ?_
            refine cO (()) ?_ ?_ ?_
            · exact (Sub.eP O (by first | exact qG (beq_iff_eq.2 (by assumption)) (by unfold qH; first | exact .inl (by assumption) | exact .inr (.inl (by assumption)) | exact .inr (.inr (.inl (by assumption))) | exact .inr (.inr (.inr (.inl (by assumption)))) | exact .inr (.inr (.inr (.inr (by assumption))))) | exact congrArg Value.bool (by rw [Bool.eq_iff_iff, decide_eq_true_iff, beq_iff_eq]; unfold qH; exact ⟨fun h => .inr (.inr (.inr (.inr h))), fun h => by rcases h with h | h | h | h | h <;> first | exact h | exact absurd h (by assumption)⟩)) (Sub.nil _))
            · exact (Sub.nil _)
            · (try dsimp only)
              first | done | exact HJ
          · (try simp only [aC] at h4)
            refine gW (Z (gY O O) (fV O (bI O (fun h5 => ?_) (fun h5 => ?_))))
            · (try simp only [aC] at h5)
              refine bY ?_
              refine cO (()) ?_ ?_ ?_
              · exact (Sub.eP O (by first | exact qG (beq_iff_eq.2 (by assumption)) (by unfold qH; first | exact .inl (by assumption) | exact .inr (.inl (by assumption)) | exact .inr (.inr (.inl (by assumption))) | exact .inr (.inr (.inr (.inl (by assumption)))) | exact .inr (.inr (.inr (.inr (by assumption))))) | exact congrArg Value.bool (by rw [Bool.eq_iff_iff, decide_eq_true_iff, beq_iff_eq]; unfold qH; exact ⟨fun h => .inr (.inr (.inr (.inr h))), fun h => by rcases h with h | h | h | h | h <;> first | exact h | exact absurd h (by assumption)⟩)) (Sub.nil _))
              · exact (Sub.nil _)
              · (try dsimp only)
                first | done | exact HJ
            · (try simp only [aC] at h5)
              refine gW (Z (gY O O) (fV O (bI O (fun h6 => ?_) (fun h6 => ?_))))
              · (try simp only [aC] at h6)
                refine bY ?_
                refine cO (()) ?_ ?_ ?_
                · exact (Sub.eP O (by first | exact qG (beq_iff_eq.2 (by assumption)) (by unfold qH; first | exact .inl (by assumption) | exact .inr (.inl (by assumption)) | exact .inr (.inr (.inl (by assumption))) | exact .inr (.inr (.inr (.inl (by assumption)))) | exact .inr (.inr (.inr (.inr (by assumption))))) | exact congrArg Value.bool (by rw [Bool.eq_iff_iff, decide_eq_true_iff, beq_iff_eq]; unfold qH; exact ⟨fun h => .inr (.inr (.inr (.inr h))), fun h => by rcases h with h | h | h | h | h <;> first | exact h | exact absurd h (by assumption)⟩)) (Sub.nil _))
                · exact (Sub.nil _)
                · (try dsimp only)
                  first | done | exact HJ
              · (try simp only [aC] at h6)
                refine aA (Z (gY O O) (dL O (bD ?_)))
                refine cO (()) ?_ ?_ ?_
                · exact (Sub.eP O (by first | exact qG (beq_iff_eq.2 (by assumption)) (by unfold qH; first | exact .inl (by assumption) | exact .inr (.inl (by assumption)) | exact .inr (.inr (.inl (by assumption))) | exact .inr (.inr (.inr (.inl (by assumption)))) | exact .inr (.inr (.inr (.inr (by assumption))))) | exact congrArg Value.bool (by rw [Bool.eq_iff_iff, decide_eq_true_iff, beq_iff_eq]; unfold qH; exact ⟨fun h => .inr (.inr (.inr (.inr h))), fun h => by rcases h with h | h | h | h | h <;> first | exact h | exact absurd h (by assumption)⟩)) (Sub.nil _))
                · exact (Sub.nil _)
                · (try dsimp only)
                  first | done | exact HJ
  · skip
    refine gW (Z (gY O O) (fV O (bI O (fun h7 => ?_) (fun h7 => ?_))))
    · (try simp only [aC] at h7)
      refine bY ?_
      refine cO (()) ?_ ?_ ?_
      · exact (Sub.eP O (by first | exact qG (beq_iff_eq.2 (by assumption)) (by unfold xG; first | exact .inl (by assumption) | exact .inr (.inl (by assumption)) | exact .inr (.inr (.inl (by assumption))) | exact .inr (.inr (.inr (by assumption)))) | exact congrArg Value.bool (by rw [Bool.eq_iff_iff, decide_eq_true_iff, beq_iff_eq]; unfold xG; exact ⟨fun h => .inr (.inr (.inr h)), fun h => by rcases h with h | h | h | h <;> first | exact h | exact absurd h (by assumption)⟩)) (Sub.nil _))
      · exact ji
      · (try dsimp only)
        first | done | exact H
    · (try simp only [aC] at h7)
      refine gW (Z (gY O O) (fV O (bI O (fun h8 => ?_) (fun h8 => ?_))))
      · (try simp only [aC] at h8)
        refine bY ?_
        refine cO (()) ?_ ?_ ?_
        · exact (Sub.eP O (by first | exact qG (beq_iff_eq.2 (by assumption)) (by unfold xG; first | exact .inl (by assumption) | exact .inr (.inl (by assumption)) | exact .inr (.inr (.inl (by assumption))) | exact .inr (.inr (.inr (by assumption)))) | exact congrArg Value.bool (by rw [Bool.eq_iff_iff, decide_eq_true_iff, beq_iff_eq]; unfold xG; exact ⟨fun h => .inr (.inr (.inr h)), fun h => by rcases h with h | h | h | h <;> first | exact h | exact absurd h (by assumption)⟩)) (Sub.nil _))
        · exact ji
        · (try dsimp only)
          first | done | exact H
      · (try simp only [aC] at h8)
        refine gW (Z (gY O O) (fV O (bI O (fun h9 => ?_) (fun h9 => ?_))))
        · (try simp only [aC] at h9)
          refine bY ?_
          refine cO (()) ?_ ?_ ?_
          · exact (Sub.eP O (by first | exact qG (beq_iff_eq.2 (by assumption)) (by unfold xG; first | exact .inl (by assumption) | exact .inr (.inl (by assumption)) | exact .inr (.inr (.inl (by assumption))) | exact .inr (.inr (.inr (by assumption)))) | exact congrArg Value.bool (by rw [Bool.eq_iff_iff, decide_eq_true_iff, beq_iff_eq]; unfold xG; exact ⟨fun h => .inr (.inr (.inr h)), fun h => by rcases h with h | h | h | h <;> first | exact h | exact absurd h (by assumption)⟩)) (Sub.nil _))
          · exact ji
          · (try dsimp only)
            first | done | exact H
        · (try simp only [aC] at h9)
          refine aA (Z (gY O O) (dL O (bD ?_)))
          refine cO (()) ?_ ?_ ?_
          · exact (Sub.eP O (by first | exact qG (beq_iff_eq.2 (by assumption)) (by unfold xG; first | exact .inl (by assumption) | exact .inr (.inl (by assumption)) | exact .inr (.inr (.inl (by assumption))) | exact .inr (.inr (.inr (by assumption)))) | exact congrArg Value.bool (by rw [Bool.eq_iff_iff, decide_eq_true_iff, beq_iff_eq]; unfold xG; exact ⟨fun h => .inr (.inr (.inr h)), fun h => by rcases h with h | h | h | h <;> first | exact h | exact absurd h (by assumption)⟩)) (Sub.nil _))
          · exact ji
          · (try dsimp only)
            first | done | exact H
end
end Go.Proofs.YtpdeedplgmbopaaGreatDoor
end
section
namespace Go.Proofs.YtpdeedplgmbopaaGreatDoor
open Go.RowKit Go.Lib
section
variable {P : Program} {L : List (Nat × Value)} {w0 w : World} {F : HP} {ty : TypeId} {b : Nat} {v d : Int} {t : TypeId}
theorem O5 {u : Value} (hc : w.cell? ⟨b, 0, none⟩ = some u) (hz : w.frozen? ⟨b, 0, none⟩ = false) : (Extern.Atomic.storeT #[.pointer (some ⟨b, 0, none⟩), .int .i64 d]).run P w = .ok Extern.Atomic.none_ (w.setCell ⟨b, 0, none⟩ (.int .i64 d)) := by
  change Sem.run P (do store (← asAddr (.pointer (some ⟨b, 0, none⟩))) (.int .i64 d) .atomic; pure Extern.Atomic.none_) w = _
  simp [asAddr, run_store _ _ _ _ _ (rfl : (Value.int .i64 d).oneCell' = true), hc, hz, Result.andThen]
theorem UC {f : FuncId} {args : List Operand} {ts : Array TypeId} {fn : Func} (H : V w0 w (dS b (.cells #[.int .i64 v] t (0, 0)) • F)) (ha : EC L args = some [.pointer (some ⟨b, 0, none⟩), .int .i64 d])
    (hf : P.funcs[f]? = some fn) (hname : (fn.name == "runtime.NumGoroutine") = false) (hb : fn.body.isNone = true) (hn : Extern.findNext fn = none) (he : Extern.find fn = some Extern.Atomic.storeT) :
    uZ P L (.call ⟨.value (.func f), args.toArray, ts⟩) ty w fun u w' => V w0 w' (dS b (.cells #[.int .i64 d] t (0, 0)) • F) :=
  Xc ha hf hname hb hn he (O5 (iT H.get.2 rfl) (Ap H.get.2)) (H.setCell (i := 0) _)
theorem I5 (H : V w0 w (dS b (.cells #[.int .i64 v] t (0, 0)) • F)) : ig Tryz.prog 123 #[.pointer (some ⟨b, 0, none⟩), .int .i64 d] w fun u w' => V w0 w' (dS b (.cells #[.int .i64 d] t (0, 0)) • F) := by
 refine nC Tryz.func123 Tryz.ntmps123 ?_
 refine aA (nZ O O (bK 0 Tryz.underlying161 O Tryz.sizeOf2 O (bG O (jL (UC H O Tryz.func159 O O (by kernel_rfl) (by kernel_rfl)) ?_))))
 rintro _ w1 H1
 refine bD (mO (.inr O) Tryz.results123 ?_)
 exact H1
end
end Go.Proofs.YtpdeedplgmbopaaGreatDoor
end
section
namespace Go.Proofs.YtpdeedplgmbopaaGreatDoor
open Go.RowKit
open _root_.Go.Proofs.Tryz
section
variable {w0 w : World} {F : HP} {e : Nat} {s : dN}
theorem JF (H : V w0 w (iC e s • F)) (hi : s.inn = false) : ig prog 70 #[.pointer (some ⟨e, 0, none⟩)] w fun v w' => ∃ q, v = .pointer (some ⟨q, 0, none⟩) ∧ V w0 w' (iC e s • F) := by
 refine iK func70 ntmps70 ?_
 refine jy O (aK (bM O (dX O func65 (qJ H) ?_)))
 rintro _ _ ⟨rfl, rfl⟩
 refine iy (oD (fG (aK ?_)))
 obtain ⟨yI, yJ, yK, yL, yM, yN, yO, yP, wu, uF, uG, uH, uI, uJ, uK, uM, uN, uO, uP, uQ, iR, dM, lJ, jg⟩ := (H).Ik
 have hwo := xK (jg.f11)
 simp only [List.all_cons, List.all_nil, Bool.and_true, Bool.and_eq_true] at hwo
 obtain ⟨o0, o1, o2, o3, o4, o5, o6, o7, o8, o9, oa⟩ := hwo
 have hon := (jg.f10).AL
 have hpl : s.put.length ≤ 16384 := by have h9 := iR.2.2.2.2.1; unfold jd at h9; omega
 refine aA (nZ O O (Z (fP ah O sizeOf82 O O (jg).get.2) (jL (gK (l := [_, _, _, _, _, _, _, _, _, _, _, _, _, _, _, _, _, _, _, _, _, _, _, _, _, _, _, _, _, _, _, _, _, _]) jg zeroValue82 O) ?_)))
 rintro _ w3 ⟨b3, rfl, H3⟩
 refine aO (dw 0 (l' := [_, _, _, _, _, _, _, _, _, _, _, _, _, _, _, _, _, _, _, _, _, _, _, _, _, _, _, _, _, _, _, _, _, _]) (us := [_, _, _, _, _, _, _, _, _, _, _, _, _, _, _, _, _, _, _, _, _, _, _, _, _, _, _, _, _, _, _, _, _, _]) H3 sizeOf82 O O O (aH (aH (aH (aH (aH (aH (aH (aH (aH (aH (aH (aH (aH (aH (aH (aH (aH (aH (aH (aH (aH (aH (aH (aH (aH (aH (aH (aH (aH (aH (aH (aH (aH (bf (by first | rfl | exact Rd.one ((H3.f10).aY)) bP)))))))))))))))))))))))))))))))))) O O) ?_
 rintro _ w4 H4
 refine sH O (dQ O (bK 0 ah O aX O (Z (oP 0 (xs := [_, _, _, _, _, _, _, _, _, _, _]) aJ O aX O O (H4.f2).get.2 O) (dX O func80 (Ox H4.f7.f7.f7.f7.f7) ?_))))
 rintro _ w5 ⟨qb5, qr5, qw5, qt5, qm5, rfl, H5⟩
 refine bK 0 ah O aX O (aO (dw 0 (l' := [_, _, _, _, _, _, _, _, _, _, _, _, _, _, _, _, _, _, _, _, _, _, _, _, _, _, _, _, _, _, _, _, _, _]) (us := [_, _, _, _, _, _, _, _, _, _, _]) H5.f11 aX O O O (aH (aH (aH (aH (aH (aH (aH (aH (aH (aH (aH bP))))))))))) O O) ?_)
 rintro _ w6 H6
 have Hd7 := H6.f5.right
 have Hd8 := Hd7.f2.right
 have Hd9 := Hd8.f2.right
 have Y2 := Hd9.f2.right
 have Qp := Y2.f2.right
 refine qW (bM O (dQ O (bK 16 ah O aT O (gJ bW O (Qp.f7).get.2 O (gQ O (fun h => by exfalso; (try simp only [aC] at h); rw [hi] at h; simp at h) (fun h1 => ?_))))))
 (try simp only [aC] at h1)
 refine fG (bM O (dQ O (bK 11 ah O sizeOf78 O (gJ kC O (Qp.f7).get.2 O (dX O func109 (tC Qp.f8) ?_)))))
 rintro _ w12 ⟨q12, rfl, vX⟩
 refine bK 11 ah O sizeOf78 O (aO (fE 11 vX.f3 sizeOf78) ?_)
 rintro _ PO xM
 have Y9 := xM.f2.right
 refine sH O (dQ O (bK 33 ah O bV O (gJ aZ O (Y9.f8).get.2 O (dX O func122 (Af Y9 (fun W HW => (HW.f10).aY) hon (by omega)) ?_))))
 rintro u15 TV zH
 refine bK 33 ah O bV O (aO (fQ 33 (l' := [_, _, _, _, _, _, _, _, _, _, _, _, _, _, _, _, _, _, _, _, _, _, _, _, _, _, _, _, _, _, _, _, _, _]) zH.f2 bV O O (by first | rfl | exact Rd.one ((zH).aY)) O O) ?_)
 rintro _ w16 zB
 have Qq := zB.f2.right
 refine Yh (Z (eX (zl := [.int .i64 0]) (pl := [(0, 0), (0, 0), (0, 1)]) [_] underlying161 zeroValue161 O (fun w => by kernel_rfl) O (.zero (zs := []) O (.zero (zs := []) O (.zero (zs := [.int .i64 0]) O .nil))) O) (jL (jf (l := [_]) Qq O O) ?_))
 rintro _ YE ⟨b18, rfl, DT⟩
 refine bK 12 ah O sizeOf79 O (aO (fE 12 DT.f2 sizeOf79) ?_)
 rintro _ w19 EO
 refine qW ?_
 have MK := EO.drew
 have zV := V.kp (MK.f13.f13.f13.f13.f13.f13.f13.f13.f13.f13.f13.f13.f13)
 refine yY [1, 5] zV O (iJ 0 O zV 12 ah O sizeOf79 O (kK 1 O zV (fun W hW => kQ underlying79 O ((Kp.h hW)).get.2 O) (jW 2 O zV O (kV 3 O zV O (iJ 4 O zV 12 ah O sizeOf79 O (kK 5 O zV (fun W hW => kQ underlying79 O ((Kp.h hW).f9).get.2 O) (oV 6 O (zx O func68 (nR MK.f10)) ?_)))))))
 rintro _ _ ⟨rfl, rfl⟩
 have D9 := V.kp (MK.f13.f13.f13.f13.f13.f13.f13.f13.f13.f13.f13.f13.f13)
 refine eU D9 (fun W hW => (Kp.h hW).f13.f13.f13.f13.f13.f13.f13.f13.f13.f13.f13.f13.f13) ?_
 refine oV 7 O (zx O func123 (I5 MK.f2)) ?_
 rintro _ w21 Jz
 have XC := V.kp (Jz.f13.f13.f13.f13.f13.f13.f13.f13.f13.f13.f13.f13.f13)
 refine iD XC (by kernel_rfl) ?_
 refine sK (aW (jB O (dF results70 O ?_)))
 have Xa := Jz.f13.f13.f13.f13.f7.f12.f12.f12.f12.f12.f13
 have Xb := V.je (s := s) iR dM Xa
 exact ⟨_, O, Xb.f2.right.f2.right⟩
end
def abo (w0 : World) (name : ByteArray) (keys : List Int) (n : Int) (g : Bool) (s : dN) (M : VM) (Q : Int → dN → VM → Prop) : Prop := ∀ (F : HP) (W : World) (c m e : Nat) (kv lv : Value), V w0 W (VC c m e name kv n g lv s.c.pt • lD 21 .i32 lv s.c.L • qI m M • iC e s • F) → jE w0 F .i32 kv keys →
  ig prog 124 #[.pointer (some ⟨c, 0, none⟩)] W fun v W' => ∃ x t M', Q x t M' ∧ v = .int .i64 x ∧ V w0 W' (VC c m e name kv n g lv s.c.pt • lD 21 .i32 lv s.c.L • qI m M' • iC e t • F)
def VM.did (M : VM) (name : ByteArray) (keys : List Int) (n x : Int) : VM := if (xG name ∨ qH name) ∧ x = 0 then { M with name := name, keys := keys, n := n, typed := [] } else M
def dN.XD (t : dN) (x : Int) : Int := if x = 0 then t.I4.AU t.IZ else t.AU x
def dN.doS (t : dN) (x : Int) : dN := if x = 0 then t.I4.Df t.IZ else t.Df x
def VM.doM (M M' : VM) (name : ByteArray) (keys : List Int) (n x r : Int) : VM := if r = 0 then M'.did name keys n x else M
section
variable {w0 w : World} {F : HP} {c m e : Nat} {s : dN} {name : ByteArray} {kv lv : Value} {keys : List Int} {n p x : Int} {g : Bool} {M M' : VM} {Q : Int → dN → VM → Prop}
theorem ML (h : xG name ∨ qH name) (hx : x = 0) : M.did name keys n x = { M with name := name, keys := keys, n := n, typed := [] } := if_pos ⟨h, hx⟩
theorem Dw (h : ¬ ((xG name ∨ qH name) ∧ x = 0)) : M.did name keys n x = M := if_neg h
theorem UD (H : V w0 w (VC c m e name kv n g lv s.c.pt • lD 21 .i32 lv s.c.L • qI m M • iC e s • F)) (hk : jE w0 F .i32 kv keys) (h1 : abo w0 name keys n g s M Q) (hkl : keys.length * 4 ≤ 140737488355328) (hw : pq name keys = 0) (hn : 1 ≤ n ∧ n ≤ 1000000) :
  ig prog 74 #[.pointer (some ⟨c, 0, none⟩)] w fun v w' => ∃ x t M', Q x t M' ∧ v = .int .i64 x ∧ V w0 w' (VC c m e name kv n g lv s.c.pt • lD 21 .i32 lv s.c.L • qI m (M'.did name keys n x) • iC e t • F) := by
 refine iK func74 ntmps74 ?_
 refine jy O (bM O (dX O func124 (h1 _ _ _ _ _ _ _ H hk) ?_))
 rintro _ w1 ⟨x, t, M2, hQ, rfl, H1⟩
 refine tX O (bM O (dQ O (bK 2 dI O pK O (gJ fB O (H1).get.2 O (dX O func125 (MJ H1) ?_)))))
 rintro _ w2 ⟨rfl, H2⟩
 refine bG O (rW O O (rW O O (dL O (fV O (bM O (iZ O (fun h1 => ?_) (fun h1 => ?_)))))))
 ·(try simp only [aC] at h1)
  refine bg (bG O (bg (Z (cZ O O) (iM O O (gQ O (fun h2 => ?_) (fun h2 => ?_))))))
  ·(try simp only [aC] at h2)
   obtain ⟨OD, OE, OG, xH, xW⟩ := (H2.f3).vm
   have hcg : xG name ∨ qH name := by assumption
   have hx0 : x = 0 := by assumption
   have ac4 := xW.drew
   have vS := V.kp (ac4.f7.f7.f7.f7.f7.f7.f7)
   refine yY [3, 7, 11, 16] vS O (jW 0 O vS O (kV 1 O vS O (iJ 2 O vS 0 dI O sizeOf41 O (kK 3 O vS (fun W hW => kQ underlying41 O ((Kp.h hW).f5).get.2 O) (jW 4 O vS O (kV 5 O vS O (iJ 6 O vS 2 dI O pK O (kK 7 O vS (fun W hW => kQ fB O ((Kp.h hW).f5).get.2 O) (jW 8 O vS O (kV 9 O vS O (iJ 10 O vS 3 dI O dV O (kK 11 O vS (fun W hW => kQ aj O ((Kp.h hW).f5).get.2 O) (jW 13 O vS O (kV 14 O vS O (iJ 15 O vS 4 dI O aF O (kK 16 O vS (fun W hW => kQ aP O ((Kp.h hW).f5).get.2 O) (oV 12 O (zx O func71 (qP ac4 (fun W HW => hk _ (HW.right.right.right.right.right.right.right)) (by omega))) ?_)))))))))))))))))
   rintro u4 w4 H4
   have nK := V.kp (H4.f8.f8.f8.f8.f8.f8.f8.f8)
   refine eU nK (fun W hW => (Kp.h hW).right.f7.f7.f7.f7.f7.f7.f7) ?_
   refine jQ 17 O nK (fun _ => eX (zl := [.string .empty, .slice none 0 0, .int .i64 0, .slice none 0 0]) (pl := [(0, 1), (1, 1), (2, 1), (3, 1)]) [_, _, _, _] underlying117 zeroValue117 O (fun w => by kernel_rfl) O (.on (.one (Rd.one ((H4).aY)) (.on (.zero (zs := [.slice none 0 0]) O .nil)))) O) ?_
   refine kV 18 O nK O (iJ 19 O nK 3 gq O sizeOf117 O ?_)
   refine gX 20 O (by kernel_rfl) (dw 3 (l' := [_, _, _, _, _, _, _, _]) (us := [_, _, _, _]) H4.f2 sizeOf117 O O O (aH (bf (by first | rfl | exact Rd.one ((H4).aY)) (aH (aH bP)))) O O) ?_
   rintro _ w5 H5
   have AQ := V.kp (H5.f8.f8.f8.f8.f8.f8.f8.f8)
   refine iD AQ (by kernel_rfl) ?_
   have YQ := H5.f2
   have YR := YQ.pY
   have Ho8 := YR.f3.f3
   have Zb := V.aa6 (M := { M2 with name := name, keys := keys, n := n, typed := [] }) ⟨hkl, by show ([] : List Int).length ≤ 1024; decide, .inr ⟨hcg, hw, hn.1, hn.2⟩⟩ rfl Ho8
   refine sK (aW (bM O (dU O (dF results74 O ?_))))
   exact ⟨_, _, M2, hQ, O, by first | (rw [ML hcg hx0]; exact Zb.f2.right.f2.right.f4.f2.f4.f4) | (rw [Dw (fun hc => absurd hc.2 (by assumption))]; exact Zb.f2.right.f2.right.f4.f2.f4.f4) | (rw [Dw (fun hc => absurd (decide_eq_true hc.1) (by simp only [*]; decide))]; exact Zb.f2.right.f2.right.f4.f2.f4.f4)⟩
  ·(try simp only [aC] at h2)
   refine fG (bM O (dU O (dF results74 O ?_)))
   exact ⟨_, _, M2, hQ, O, by first | (rw [ML hcg hx0]; exact H2.f4.f4.f4.f4) | (rw [Dw (fun hc => absurd hc.2 (by assumption))]; exact H2.f4.f4.f4.f4) | (rw [Dw (fun hc => absurd (decide_eq_true hc.1) (by simp only [*]; decide))]; exact H2.f4.f4.f4.f4)⟩
 ·(try simp only [aC] at h1)
  refine bn (bn (gI O O (iy (oD (fG (bM O (dU O (dF results74 O ?_))))))))
  exact ⟨_, _, M2, hQ, O, by first | (rw [ML hcg hx0]; exact H2.f4.f4.f4.f4) | (rw [Dw (fun hc => absurd hc.2 (by assumption))]; exact H2.f4.f4.f4.f4) | (rw [Dw (fun hc => absurd (decide_eq_true hc.1) (by simp only [*]; decide))]; exact H2.f4.f4.f4.f4)⟩
theorem KP (s : dN) (h : mF s) : 1 ≤ max s.count 1 ∧ max s.count 1 ≤ 1000000 := by
  have h := h.2.2.1
  unfold dN.count
  dsimp only
  by_cases h1 : s.given = true <;> by_cases h2 : s.arg < 0 <;> by_cases h3 : s.minus = true <;> simp only [h1, h2, h3, if_true, if_false, Bool.false_eq_true] <;> omega
theorem XE (H : V w0 w (iC e s • F)) : mF s := by
  obtain ⟨pb, pr, pw, pt, pm, ph, bl, pv, es, u0, u1, u2, u3, u4, u5, u6, u7, u8, u9, ua, h, _⟩ := H.Ik
  exact h
theorem Zc (H : V w0 w (qI m M • iC e s • F)) (hi : s.inn = false) (hk : jE w0 F .i32 kv keys) (hkl : keys.length * 4 ≤ 140737488355328) (hw : pq name keys = 0) (hone : abo w0 name keys (max s.kN.count 1) s.kN.given s.kN M Q) :
  ig prog 24 #[.pointer (some ⟨m, 0, none⟩), .pointer (some ⟨e, 0, none⟩), .string name, kv] w fun v w' => ∃ x t M', Q x t M' ∧ v = .int .i64 (t.XD x) ∧ V w0 w' (qI m (M.doM M' name keys (max s.kN.count 1) x (t.XD x)) • iC e (t.doS x) • F) := by
 refine aaz func24 ntmps24 ?_
 refine jy O (aK (aV (bM O (dX O func69 (Bg H) ?_))))
 rintro _ _ ⟨rfl, rfl⟩
 refine bG O (bg (bG O (bg (dX O func70 (JF H.f2 hi) ?_))))
 rintro _ w2 ⟨cl2, rfl, H2⟩
 refine bg (Z (jm kU O O) (gI O O (fV O (NC O (fun h1 => ?_)))))
 (try simp only [aC] at h1)
 refine bM O (bG O (dX O func16 (Dn H2 (fun W HW => hk _ (HW.right.right))) ?_))
 rintro _ w3 ⟨rfl, H3⟩
 refine Z (cZ O O) (fV O (bI O (fun h => by exfalso; (try simp only [aC] at h); rw [hw] at h; exact absurd h (by decide)) (fun h2 => ?_)))
 (try simp only [aC] at h2)
 refine bM O (bG O (dX O func16 (Dn H3 (fun W HW => hk _ (HW.right.right))) ?_))
 rintro _ w4 ⟨rfl, H4⟩
 refine Z (jv O O) (fV O (bI O (fun h => by exfalso; (try simp only [aC] at h); exact h hw) (fun h3 => ?_)))
 (try simp only [aC] at h3)
 refine bY (aG (aW (aK (bM O (dX O func29 (Eh H4) ?_)))))
 rintro _ w5 ⟨rfl, H5⟩
 refine fV O (bM O (Z (jv O O) (gQ O (fun h => by exfalso; (try simp only [aC] at h); exact h (by unfold dN.Dc; rw [if_neg (by simp [hi])])) (fun h4 => ?_))))
 (try simp only [aC] at h4)
 refine fG (bM O (dX O func38 (Me H5.f2) ?_))
 rintro _ w6 ⟨c6, rfl, H6⟩
 have hco := KP s.kN (XE H6.f3)
 refine fV O (bM O (jr O O (bG O (dX O func71 (qP H6 (fun W HW => hk _ (HW.right.right.right)) (by omega)) ?_))))
 rintro u7 w7 H7
 refine bG O (dX O func72 (MB H7.f4) ?_)
 rintro _ w8 ⟨rfl, H8⟩
 refine Z (Fj O O) (bG O (dX O func73 (MC H8) ?_))
 rintro _ w9 ⟨rfl, H9⟩
 refine Z (eX (zl := [.pointer none, .pointer none, .string .empty, .slice none 0 0, .int .i64 0, .bool false, .slice none 0 0, .int .i64 0]) (pl := [(0, 1), (1, 1), (2, 1), (3, 1), (4, 1), (5, 1), (6, 1), (7, 1)]) [_, _, _, _, _, _, _, _] dI zeroValue130 O (fun w => by kernel_rfl) O (.on (.on (.on (.one (Rd.one ((H9.f2).aY)) (.on (.on (.zero (zs := [.slice none 0 0]) O (.zero (zs := [.int .i64 0]) O .nil)))))))) O) ?_
 refine jL (jf (l := [_, _, _, _, _, _, _, _]) H9 O O) ?_
 rintro _ w10 ⟨b10, rfl, rD⟩
 refine fV O (bM O (dX O func28 (Bh rD.f2) ?_))
 rintro _ ED ⟨u11, rfl, rM⟩
 refine jL (gK (l := [_, _, _]) rM zeroValue46 O) ?_
 rintro _ w12 ⟨b12, rfl, vX⟩
 refine aO (dw 0 (l' := [_, _, _]) (us := [_, _, _]) vX sizeOf46 O O O (bf (by first | rfl | exact Rd.one ((vX.f2).aY)) (aH (aH bP))) O O) ?_
 rintro _ PO xM
 refine qW ?_
 have Q7 := xM.drew
 have wO := V.kp (Q7.f4.right.f6.f6.f6.f6.f6.f6)
 refine yY [3, 5] wO O (jW 0 O wO O (jW 1 O wO O (iJ 2 O wO 0 jR O dV O (kK 3 O wO (fun W hW => kQ aj O ((Kp.h hW)).get.2 O) (iJ 4 O wO 1 jR O aF O (kK 5 O wO (fun W hW => kQ aP O ((Kp.h hW)).get.2 O) (kV 6 O wO O (iJ 7 O wO 6 dI O dV O ?_))))))))
 refine gX 8 O (by kernel_rfl) (fQ 6 (l' := [_, _, _, _, _, _, _, _]) Q7.f4 dV O O (by first | rfl | exact Rd.one ((Q7.f2).aY)) O O) ?_
 rintro _ TN BJ
 have D5 := V.kp (BJ.f7.f7.f7.f7.f7.f7.f7)
 refine eU D5 (fun W hW => (Kp.h hW).right.f6.f6.f6.f6.f6.f6) ?_
 refine kV 9 O D5 O (iJ 10 O D5 7 dI O aF O ?_)
 refine gX 11 O (by kernel_rfl) (fQ 7 (l' := [_, _, _, _, _, _, _, _]) BJ aF O O (by first | rfl | assumption) O O) ?_
 rintro _ TV zH
 have wF := V.kp (zH.f7.f7.f7.f7.f7.f7.f7)
 refine iD wF (by kernel_rfl) ?_
 refine sK (aW (bM O (dX O func74 (UD zH.f4.f7.f5.f4 (fun W HW => (HW.f2).aY) hone hkl hw hco) ?_)))
 rintro _ w16 ⟨x, t, M2, hQ, rfl, zB⟩
 refine tX O (bM O (Z (cZ O O) (gQ O (fun h5 => ?_) (fun h5 => ?_))))
 ·(try simp only [aC] at h5)
  have hx : x = 0 := h5
  refine aA (bG O (dX O func75 (MI zB.f4.f2) ?_))
  rintro _ ZY ⟨rfl, Jo⟩
  refine tX O (bM O (bG O (dX O func31 (Dv Jo.f2) ?_)))
  rintro _ YE ⟨rfl, DT⟩
  refine fV O (bM O (Z (jv O O) (gQ O (fun h6 => ?_) (fun h6 => ?_))))
  ·(try simp only [aC] at h6)
   obtain ⟨OD, OE, OG, xH, xW⟩ := (DT.f4).vm
   obtain ⟨ac5, ac6, ac7, Q8, Eo⟩ := (xW.f10).vm
   refine aA (jr O O (dQ O (Z (fP gq O sizeOf119 O O (Eo).get.2) (dQ O (aO (dw 0 (l' := [_, _, _, _, _, _, _, _]) (us := [_, _, _, _, _, _, _, _]) Eo.f5 sizeOf119 O O O (aH (aH (aH (aH (bf (by first | rfl | exact Rd.one ((Eo.f3).jV)) (aH (bf (by first | rfl | exact Rd.one ((Eo.f4).jV)) (aH bP)))))))) O O) ?_)))))
   rintro _ w21 Jz
   have aeJ := Jz.f5.f5.f5.f4
   have Zd := V.CQ (M := M) Q8 aeJ
   refine sH O (dU O (dF results24 O ?_))
   refine ⟨x, t, M2, hQ, by unfold dN.XD; first | rw [if_pos hx] | rw [if_neg hx], ?_⟩
   unfold VM.doM dN.XD dN.doS
   first | (rw [if_pos hx, if_pos hx, if_pos (by assumption)]; exact Zd.f2.right.f2.right.f2.right.f2.right.f3.right.f3.right.f3.right.f3.right.f2.f2) | (rw [if_pos hx, if_pos hx, if_neg (by assumption)]; exact Zd.f2.right.f2.right.f2.right.f2.right.f3.right.f3.right.f3.right.f3.right.f2.f2) | (rw [if_neg hx, if_neg hx, if_pos (by assumption)]; exact Zd.f2.right.f2.right.f2.right.f2.right.f3.right.f3.right.f3.right.f3.right.f2.f2) | (rw [if_neg hx, if_neg hx, if_neg (by assumption)]; exact Zd.f2.right.f2.right.f2.right.f2.right.f3.right.f3.right.f3.right.f3.right.f2.f2)
  ·(try simp only [aC] at h6)
   refine fG (bM O (dU O (dF results24 O ?_)))
   refine ⟨x, t, M2, hQ, by unfold dN.XD; first | rw [if_pos hx] | rw [if_neg hx], ?_⟩
   unfold VM.doM dN.XD dN.doS
   first | (rw [if_pos hx, if_pos hx, if_pos (by assumption)]; exact DT.f2.right.f2.right.f3.right.f3.right.f3.right.f2) | (rw [if_pos hx, if_pos hx, if_neg (by assumption)]; exact DT.f2.right.f2.right.f3.right.f3.right.f3.right.f2) | (rw [if_neg hx, if_neg hx, if_pos (by assumption)]; exact DT.f2.right.f2.right.f3.right.f3.right.f3.right.f2) | (rw [if_neg hx, if_neg hx, if_neg (by assumption)]; exact DT.f2.right.f2.right.f3.right.f3.right.f3.right.f2)
 ·(try simp only [aC] at h5)
  have hx : ¬ x = 0 := h5
  refine fG (aK (bM O (bG O (dX O func31 (Dv zB.f4) ?_))))
  rintro _ w24 ⟨rfl, Yi⟩
  refine fV O (bM O (Z (jv O O) (gQ O (fun h7 => ?_) (fun h7 => ?_))))
  ·(try simp only [aC] at h7)
   obtain ⟨OD, OE, OG, xH, xW⟩ := (Yi.f4).vm
   obtain ⟨ac5, ac6, ac7, Q8, Eo⟩ := (xW.f10).vm
   refine aA (jr O O (dQ O (Z (fP gq O sizeOf119 O O (Eo).get.2) (dQ O (aO (dw 0 (l' := [_, _, _, _, _, _, _, _]) (us := [_, _, _, _, _, _, _, _]) Eo.f5 sizeOf119 O O O (aH (aH (aH (aH (bf (by first | rfl | exact Rd.one ((Eo.f3).jV)) (aH (bf (by first | rfl | exact Rd.one ((Eo.f4).jV)) (aH bP)))))))) O O) ?_)))))
   rintro _ w27 OM
   have aaS := OM.f5.f5.f5.f4
   have Uf := V.CQ (M := M) Q8 aaS
   refine sH O (dU O (dF results24 O ?_))
   refine ⟨x, t, M2, hQ, by unfold dN.XD; first | rw [if_pos hx] | rw [if_neg hx], ?_⟩
   unfold VM.doM dN.XD dN.doS
   first | (rw [if_pos hx, if_pos hx, if_pos (by assumption)]; exact Uf.f2.right.f2.right.f2.right.f2.right.f3.right.f3.right.f3.right.f3.right.f2.f2) | (rw [if_pos hx, if_pos hx, if_neg (by assumption)]; exact Uf.f2.right.f2.right.f2.right.f2.right.f3.right.f3.right.f3.right.f3.right.f2.f2) | (rw [if_neg hx, if_neg hx, if_pos (by assumption)]; exact Uf.f2.right.f2.right.f2.right.f2.right.f3.right.f3.right.f3.right.f3.right.f2.f2) | (rw [if_neg hx, if_neg hx, if_neg (by assumption)]; exact Uf.f2.right.f2.right.f2.right.f2.right.f3.right.f3.right.f3.right.f3.right.f2.f2)
  ·(try simp only [aC] at h7)
   refine fG (bM O (dU O (dF results24 O ?_)))
   refine ⟨x, t, M2, hQ, by unfold dN.XD; first | rw [if_pos hx] | rw [if_neg hx], ?_⟩
   unfold VM.doM dN.XD dN.doS
   first | (rw [if_pos hx, if_pos hx, if_pos (by assumption)]; exact Yi.f2.right.f2.right.f3.right.f3.right.f3.right.f2) | (rw [if_pos hx, if_pos hx, if_neg (by assumption)]; exact Yi.f2.right.f2.right.f3.right.f3.right.f3.right.f2) | (rw [if_neg hx, if_neg hx, if_pos (by assumption)]; exact Yi.f2.right.f2.right.f3.right.f3.right.f3.right.f2) | (rw [if_neg hx, if_neg hx, if_neg (by assumption)]; exact Yi.f2.right.f2.right.f3.right.f3.right.f3.right.f2)
end
end Go.Proofs.YtpdeedplgmbopaaGreatDoor
end
section
namespace Go.Proofs.YtpdeedplgmbopaaGreatDoor
open Go.RowKit Go.Lib
def XF : ByteArray := ⟨#[40, 91, 123, 41, 93, 125]⟩
def nY : ByteArray := ⟨#[41, 93, 125]⟩
def qK : ByteArray := ⟨#[40, 91, 123]⟩
def zo (r : Int) : Int := if r = 40 then 0 else if r = 91 then 1 else if r = 123 then 2 else if r = 41 then 3 else if r = 93 then 4 else 5
theorem Ep {r : Int} (h : qo r = true) : r = 40 ∨ r = 91 ∨ r = 123 ∨ r = 41 ∨ r = 93 ∨ r = 125 := by unfold qo at h; simp at h; omega
theorem Gw {r : Int} : r ∈ xU XF ↔ qo r = true := by
  rw [show xU XF = [40, 91, 123, 41, 93, 125] from by rfl]
  unfold qo; simp; omega
theorem abp {r : Int} (h : qo r = true) : indexByte XF.data.toList (r % 256).toNat.toUInt8 = zo r := by
  rcases Ep h with rfl | rfl | rfl | rfl | rfl | rfl <;> rfl
theorem XG (r : Int) : 0 ≤ zo r ∧ zo r ≤ 5 := by
  unfold zo
  repeat' split
  all_goals omega
theorem Gx {r : Int} (h : qo r = true) (hk : zo r < 3) : sb nY (zo r % 3).toNat = sJ r ∧ wo r = 1 := by
  rcases Ep h with rfl | rfl | rfl | rfl | rfl | rfl <;> first | exact ⟨rfl, rfl⟩ | exact absurd hk (by decide)
theorem Gy {r : Int} (h : qo r = true) (hk : 3 ≤ zo r) : sb qK (zo r - 3).toNat = sJ r ∧ wo r = -1 := by
  rcases Ep h with rfl | rfl | rfl | rfl | rfl | rfl <;> first | exact ⟨rfl, rfl⟩ | exact absurd hk (by decide)
theorem MN (r : Int) : wo r = 1 ∨ wo r = -1 := by unfold wo; split <;> simp
theorem MO {r : Int} (h : qo r = true) : sJ r ≠ r := by rcases Ep h with rfl | rfl | rfl | rfl | rfl | rfl <;> decide
theorem zW (i : Nat) : 0 ≤ sb nY i ∧ sb nY i < 128 := Z4 (by decide) i
theorem zX (i : Nat) : 0 ≤ sb qK i ∧ sb qK i < 128 := Z4 (by decide) i
def pO (a b d x : Int) : Int := d + (if x = a then 1 else 0) - (if x = b then 1 else 0)
theorem EY {a b d x : Int} (h : pO a b d x = 0) : A8 a b d x = none := if_pos h
theorem I7 {a b d x : Int} (h : ¬ pO a b d x = 0) : A8 a b d x = some (pO a b d x) := if_neg h
theorem MQ {a b d x : Int} (h : x = a) (hab : b ≠ a) : pO a b d x = d + 1 := by unfold pO; rw [if_pos h, if_neg (by omega)]; omega
theorem MR {a b d x : Int} (h : ¬ x = a) (hb : x = b) : pO a b d x = d - 1 := by unfold pO; rw [if_neg h, if_pos hb]; omega
theorem MS {a b d x : Int} (h : ¬ x = a) (hb : ¬ x = b) : pO a b d x = d := by unfold pO; rw [if_neg h, if_neg hb]; omega
theorem I8 (a b d x : Int) : d - 1 ≤ pO a b d x ∧ pO a b d x ≤ d + 1 := by unfold pO; split <;> split <;> omega
section
variable {l : List Int} {x i j : Int}
theorem Bl (h : (l.length : Int) ≤ iU (fun r => !qo r) l x) : oL l x = (0, false, false) := if_pos h
theorem pW (e : iU (fun r => !qo r) l x = i) (h : i < l.length) (hs : pJ (wo (l.getD i.toNat 0)) (A8 (l.getD i.toNat 0) (sJ (l.getD i.toNat 0))) l 0 i = none) : oL l x = (0, false, false) := by
  unfold oL; rw [e, if_neg (by omega), hs]
theorem yT (e : iU (fun r => !qo r) l x = i) (h : i < l.length) (hs : pJ (wo (l.getD i.toNat 0)) (A8 (l.getD i.toNat 0) (sJ (l.getD i.toNat 0))) l 0 i = some j) : oL l x = (j, true, true) := by
  unfold oL; rw [e, if_neg (by omega), hs]
end
section
variable {w0 w : World} {F : HP} {v : Value} {l : List Int} {x n key c r : Int} {s : ByteArray}
theorem UE (h : qo r = true) : ig Tryz.prog 98 #[.string ⟨#[40, 91, 123, 41, 93, 125]⟩, .int .u8 (r % 256)] w fun v w' => v = .int .i64 (zo r) ∧ w = w' := Ec.mono fun v w' h2 => ⟨h2.1.trans (congrArg (Value.int .i64) (abp h)), h2.2⟩
theorem MV (H : V w0 w F) (hr : jE w0 F .i32 v l) (hx : 0 ≤ x ∧ x ≤ l.length) (SC : l.length ≤ 4611686018427387904) : ig Tryz.prog 43 #[v, .int .i64 x] w fun u w' => u = F7 (oL l x) ∧ V w0 w' F := by
 refine nC Tryz.func43 Tryz.ntmps43 ?_
 refine gW (dL O (dL O (tX O (bM O (fV O (aV ?_))))))
 refine dJ [(0, _)] (fun (i : Int) => [(7, .int .i64 i)]) (fun (i : Int) W => ((0 ≤ i ∧ i ≤ l.length) ∧ iU (fun r => !qo r) l i = iU (fun r => !qo r) l x) ∧ V w0 W F) (fun (i : Int) => (l.length - i).toNat) (x) ji ji ⟨⟨hx, O⟩, H⟩ ?_
 rintro i w1 ⟨⟨hi, hE⟩, HL⟩
 dsimp only [List.cons_append, List.nil_append]
 refine aK (bM O (bG O (Z (fO (hr _ (HL)) aj O) (Z (fF O O) (gQ O (fun h1 => ?_) (fun h1 => ?_))))))
 ·(try simp only [aC] at h1)
  refine fG (aK (aV (aK (bM O (bG O ?_)))))
  obtain ⟨bv, ov, cv, ev⟩ := dR.nJ (hr _ (HL)) (by omega)
  cases ev
  refine Z (dh aj bF O O (by omega)) ?_
  refine Z (dH (bT aQ O) O (by first | exact dR.jo (hr _ (HL)) (by omega) | exact dR.qB (hr _ (HL)) (by omega) | exact dR.qx (hr _ (HL)) (by omega))) ?_
  refine dX O Tryz.func50 (Ed (s := XF) (by decide)) ?_
  rintro _ _ ⟨rfl, rfl⟩
  refine Z (mD O) (gQ O (fun h2 => ?_) (fun h2 => ?_))
  ·(try simp only [aC] at h2)
   have hno : qo (l.getD i.toNat 0) = false := by have h9 := h2; rw [← Bool.not_eq_true, ← Gw]; simpa using h9
   refine bQ (aB (aU (aW (aA (bG O (Z (dP O O (by omega)) (dL O (bD ?_))))))))
   refine bZ (i + 1) ?_ ?_ ?_ ?_
   ·exact ji
   ·exact ji
   ·(try dsimp only)
    first | done | exact ⟨⟨by omega, (jY hi.1 (by omega) (by show (!qo _) = true; rw [hno]; rfl)).symm.trans hE⟩, HL⟩
   ·(try dsimp only); omega
  ·(try simp only [aC] at h2)
   have hbr : qo (l.getD i.toNat 0) = true := by have h9 := h2; rw [← Gw]; simpa using h9
   have hR : iU (fun r => !qo r) l x = i := hE.symm.trans (fM hi.1 (by omega) (by show ¬ (!qo _) = true; rw [hbr]; decide))
   have hkb := XG (l.getD i.toNat 0)
   refine fG (bM O (bG O (Z (dh aj bF O O (by omega)) ?_)))
   refine Z (dH (bT aQ O) O (by first | exact dR.jo (hr _ (HL)) (by omega) | exact dR.qB (hr _ (HL)) (by omega) | exact dR.qx (hr _ (HL)) (by omega))) ?_
   refine Z (KF O (by rw [Tryz.underlying21]; rfl) Tryz.underlying5) ?_
   refine dX O Tryz.func98 (UE hbr) ?_
   rintro _ _ ⟨rfl, rfl⟩
   refine tX O ?_
   have abq := HL.drew
   have I9 := V.kp (abq)
   refine yY [2] I9 O (jW 0 O I9 O ?_)
   refine jQ 1 O I9 (fun _ => ZC O O (by omega) (by  omega)) ?_
   refine kK 2 O I9 (fun W hW => jM fB O O (by exact ⟨by omega, by show _ < (3 : Int); omega⟩)) ?_
   refine jQ 3 O I9 (fun _ => jG O (by rw [Tryz.underlying5]; rfl) aQ (oq (by have := zW (zo (l.getD i.toNat 0) % 3).toNat; show -2147483648 ≤ sb nY _ ∧ sb nY _ < 2147483648; omega))) ?_
   refine jQ 4 O I9 (fun _ => dY O) (jQ 5 O I9 (fun _ => dY O) (sK (aW ?_)))
   refine iY [(0, _), (7, _)] (fun (_ : Unit) => [(9, .int .i64 (wo (l.getD i.toNat 0))), (10, .int .i32 (sJ (l.getD i.toNat 0)))]) (fun (_ : Unit) W => V w0 W F) mW ?_ ?_
   ·rintro _ w4 HJ
    dsimp only [List.cons_append, List.nil_append]
    have hst := MN (l.getD i.toNat 0)
    have hne := MO hbr
    refine jy O (aK (bM O (fV O (aV ?_))))
    have hmi := sF (n := l.length) (i := i) hst (by omega) (by omega)
    refine dJ [(0, _), (7, _), (9, _), (10, _)] (fun (⟨j, d⟩ : Int × Int) => [(11, .int .i64 d), (12, .int .i64 j)]) (fun (⟨j, d⟩ : Int × Int) W => ((-1 ≤ j ∧ j ≤ l.length) ∧ (d + vJ (wo (l.getD i.toNat 0)) l.length j ≤ l.length + 1 ∧ vJ (wo (l.getD i.toNat 0)) l.length j - d ≤ l.length + 1) ∧ pJ (wo (l.getD i.toNat 0)) (A8 (l.getD i.toNat 0) (sJ (l.getD i.toNat 0))) l 0 i = pJ (wo (l.getD i.toNat 0)) (A8 (l.getD i.toNat 0) (sJ (l.getD i.toNat 0))) l d j) ∧ V w0 W F) (fun (⟨j, d⟩ : Int × Int) => (vJ (wo (l.getD i.toNat 0)) l.length j).toNat) ((i, 0)) BI mW ⟨⟨by omega, by omega, O⟩, HJ⟩ ?_
    rintro ⟨j, d⟩ w5 ⟨⟨hj, hd, hF⟩, HM⟩
    dsimp only [List.cons_append, List.nil_append]
    have hms := xE (n := l.length) (i := j) hst
    have hmp := fun h0 h1 => sF (n := l.length) (i := j) hst h0 h1
    have hdb := I8 (l.getD i.toNat 0) (sJ (l.getD i.toNat 0)) d (l.getD j.toNat 0)
    refine aK (bM O (Z (jw O O) (iZ O (fun h3 => ?_) (fun h3 => ?_))))
    ·(try simp only [aC] at h3)
     refine bg (bG O (bg (bG O (bg (Z (jZ aj O) (bg (Z (fF O O) (iM O O (gQ O (fun h4 => ?_) (fun h4 => ?_))))))))))
     ·(try simp only [aC] at h4)
      refine fG (aK (aV ?_))
      refine iY [(0, _), (7, _), (9, _), (10, _), (12, _), (46, _), (47, _), (48, _), (49, _)] (fun (_ : Unit) => [(11, .int .i64 (pO (l.getD i.toNat 0) (sJ (l.getD i.toNat 0)) d (l.getD j.toNat 0)))]) (fun (_ : Unit) W => V w0 W F) (Sub.cons O (Sub.cons O (Sub.cons O Cj))) ?_ ?_
      ·rintro _ w6 HK
       dsimp only [List.cons_append, List.nil_append]
       refine bM O (Z (cZ O O) (gQ O (fun h5 => ?_) (fun h5 => ?_)))
       ·(try simp only [aC] at h5)
        have hd0 : pO (l.getD i.toNat 0) (sJ (l.getD i.toNat 0)) d (l.getD j.toNat 0) = 0 := h5
        refine bM O (dL O (dL O (dU O (aN (ay (ay (aN (ay (aN (ay (ay (aN (ay ?_)))))))))))))
        refine dW (.inl O) Tryz.results43 O O O ?_
        exact ⟨by rw [yT hR (by omega) (hF.trans (qU (by omega) (by omega) (EY hd0)))]; rfl, HK⟩
       ·(try simp only [aC] at h5)
        have hd0 : ¬ pO (l.getD i.toNat 0) (sJ (l.getD i.toNat 0)) d (l.getD j.toNat 0) = 0 := h5
        refine bY (aG (aW (aA (jr O O (Z (dP O O (by omega)) (dL O (bD ?_)))))))
        refine bZ (_, _) mW BI (by (try dsimp only); exact ⟨⟨by omega, by omega, hF.trans (tJ hst (by omega) (by omega) (I7 hd0))⟩, HK⟩) ?_
        ·(try dsimp only); have := hmp (by omega) (by omega); omega
      ·skip
       refine aK ?_
       have hmq := hmp (by omega) (by omega)
       refine aA (jr O O (Z (dh aj bF O O (by omega)) ?_))
       refine Z (dH (bT aQ O) O (by first | exact dR.jo (hr _ (HM)) (by omega) | exact dR.qB (hr _ (HM)) (by omega) | exact dR.qx (hr _ (HM)) (by omega))) ?_
       refine iy (aV (bM O (bG O (Z (dh aj bF O O (by omega)) ?_))))
       refine Z (dH (bT aQ O) O (by first | exact dR.jo (hr _ (HM)) (by omega) | exact dR.qB (hr _ (HM)) (by omega) | exact dR.qx (hr _ (HM)) (by omega))) ?_
       refine Z (cZ O O) (fV O (bI O (fun h6 => ?_) (fun h6 => ?_)))
       ·(try simp only [aC] at h6)
        have ha : l.getD j.toNat 0 = l.getD i.toNat 0 := h6
        have hdN := MQ (d := d) ha hne
        refine aA (bG O (Z (dP O O (by omega)) (dL O (bD (aG ?_)))))
        refine cO (()) ?_ ?_ ?_
        ·exact (Sub.eP O (by rw [hdN]) (Sub.nil _))
        ·exact (Sub.cons O (Sub.cons O (Sub.cons O Cj)))
        ·(try dsimp only)
         first | done | exact HM
       ·(try simp only [aC] at h6)
        have ha : ¬ l.getD j.toNat 0 = l.getD i.toNat 0 := h6
        refine bM O (Z (cZ O O) (fV O (bI O (fun h7 => ?_) (fun h7 => ?_))))
        ·(try simp only [aC] at h7)
         have hdN := MR (d := d) ha h7
         refine aA (bG O (Z (iG O O (by omega)) (dL O (bD (aG ?_)))))
         refine cO (()) ?_ ?_ ?_
         ·exact (Sub.eP O (by rw [hdN]) (Sub.nil _))
         ·exact (Sub.cons O (Sub.cons O (Sub.cons O Cj)))
         ·(try dsimp only)
          first | done | exact HM
        ·(try simp only [aC] at h7)
         have hdN := MS (d := d) ha h7
         refine bY (aG ?_)
         refine cO (()) ?_ ?_ ?_
         ·exact (Sub.eP O (by rw [hdN]) (Sub.nil _))
         ·exact (Sub.cons O (Sub.cons O (Sub.cons O Cj)))
         ·(try dsimp only)
          first | done | exact HM
     ·(try simp only [aC] at h4)
      refine bQ (aB (aB (aU (aW (gW (dL O (dL O (dU O (aN (ay (ay (aN (ay ?_)))))))))))))
      refine dW (.inl O) Tryz.results43 O O O ?_
      exact ⟨by rw [pW hR (by omega) (hF.trans (lF (by omega)))]; rfl, HM⟩
    ·(try simp only [aC] at h3)
     refine bn (bn (bn (bn (gI O O (iy (oD (bQ (aB (aB (aU (aW (gW (dL O (dL O (dU O (aN (ay (ay (aN (ay ?_))))))))))))))))))))
     refine dW (.inl O) Tryz.results43 O O O ?_
     exact ⟨by rw [pW hR (by omega) (hF.trans (lF (by omega)))]; rfl, HM⟩
   ·skip
    refine bM O (Z (jw O O) (gQ O (fun h8 => ?_) (fun h8 => ?_)))
    ·(try simp only [aC] at h8)
     have hk3 : 3 ≤ zo (l.getD i.toNat 0) := h8
     have ac8 := abq.drew
     have Ja := V.kp (ac8)
     refine yY [2] Ja O (jW 0 O Ja O (jQ 1 O Ja (fun _ => iG O O (by omega)) ?_))
     refine kK 2 O Ja (fun W hW => jM fB O O (by exact ⟨by omega, by show _ < (3 : Int); omega⟩)) ?_
     refine jQ 3 O Ja (fun _ => jG O (by rw [Tryz.underlying5]; rfl) aQ (oq (by have := zX (zo (l.getD i.toNat 0) - 3).toNat; show -2147483648 ≤ sb qK _ ∧ sb qK _ < 2147483648; omega))) ?_
     refine jQ 4 O Ja (fun _ => dY O) (jQ 5 O Ja (fun _ => dY O) (sK ?_))
     refine cO (()) ?_ ?_ ?_
     ·exact (Sub.eP O (by first | exact congrArg (Value.int .i64) (Gx hbr (by assumption)).2.symm | exact congrArg (Value.int .i64) (Gy hbr (by assumption)).2.symm) (Sub.eP O (by first | exact congrArg (Value.int .i32) (Gx hbr (by assumption)).1 | exact congrArg (Value.int .i32) (Gy hbr (by assumption)).1) (Sub.nil _)))
     ·exact mW
     ·(try dsimp only)
      first | done | exact ac8
    ·(try simp only [aC] at h8)
     have hk3 : zo (l.getD i.toNat 0) < 3 := by have h9 := h8; omega
     refine bY ?_
     refine cO (()) ?_ ?_ ?_
     ·exact (Sub.eP O (by first | exact congrArg (Value.int .i64) (Gx hbr (by assumption)).2.symm | exact congrArg (Value.int .i64) (Gy hbr (by assumption)).2.symm) (Sub.eP O (by first | exact congrArg (Value.int .i32) (Gx hbr (by assumption)).1 | exact congrArg (Value.int .i32) (Gy hbr (by assumption)).1) (Sub.nil _)))
     ·exact mW
     ·(try dsimp only)
      first | done | exact abq
 ·(try simp only [aC] at h1)
  refine bQ (aB (aB (aU (aW (gW (dL O (dL O (dU O ?_))))))))
  refine dW (.inl O) Tryz.results43 O O O ?_
  exact ⟨by rw [Bl (by rw [← hE, dZ (by omega)]; omega)]; rfl, HL⟩
end
end Go.Proofs.YtpdeedplgmbopaaGreatDoor
end
section
namespace Go.Proofs.YtpdeedplgmbopaaGreatDoor
open Go.RowKit
open _root_.Go.Proofs.Tryz
def Jb (w0 : World) (fv : Value) (g : List Int → Int → Bool → Int) (I : List Int → Int → Prop) : Prop := fv.oneCell' = true ∧ ∀ (F : HP) (W : World) (v : Value) (l : List Int) (x : Int) (b : Bool), V w0 W F → jE w0 F .i32 v l → l.length ≤ 4611686018427387904 → I l x →
  sV prog fv [v, .int .i64 x, .bool b] W fun u W' => (u = .int .i64 (g l x b) ∧ I l (g l x b)) ∧ V w0 W' F
def Tf (w0 : World) (fv : Value) (m : List Int → Int → Bool) : Prop := fv.oneCell' = true ∧ ∀ (F : HP) (W : World) (v : Value) (l : List Int) (x : Int), V w0 W F → jE w0 F .i32 v l →
  sV prog fv [v, .int .i64 x] W fun u W' => u = .bool (m l x) ∧ V w0 W' F
def Yk (l : List Int) (x : Int) : Prop := 0 ≤ x ∧ x ≤ l.length
def XH (l : List Int) (x : Int) : Prop := 0 ≤ x ∧ x < l.length
section
variable {w0 : World}
theorem KQ (hT : zA w0) : Jb w0 (.func (.func 95) #[] #[]) nX Yk :=
  ⟨rfl, fun F W v l x b H hr hl hx => ⟨95, [], [], _, _, rfl, func95, rfl, rfl, (Ui H hr hT hx.1 hx.2).mono fun u W' h => ⟨⟨h.1, by have := Ba l b hx.1 hx.2; exact ⟨Int.le_trans hx.1 this.1, this.2⟩⟩, h.2⟩⟩⟩
theorem KR (hT : zA w0) : Jb w0 (.func (.func 96) #[] #[]) ql Yk :=
  ⟨rfl, fun F W v l x b H hr hl hx => ⟨96, [], [], _, _, rfl, func96, rfl, rfl, (Uj H hr hT hx.1 hx.2).mono fun u W' h => ⟨⟨h.1, by have := Bc l b hx.1 hx.2; exact ⟨this.1, Int.le_trans this.2 hx.2⟩⟩, h.2⟩⟩⟩
theorem step_end (hT : zA w0) : Jb w0 (.func (.func 97) #[] #[]) uD XH :=
  ⟨rfl, fun F W v l x b H hr hl hx => ⟨97, [], [], _, _, rfl, func97, rfl, rfl, (WE H hr hT hx.1 (Int.le_of_lt hx.2) hl).mono fun u W' h => ⟨⟨h.1, by have := BN l b hx.1 hx.2; exact ⟨Int.le_trans hx.1 this.1, this.2⟩⟩, h.2⟩⟩⟩
end
section
variable {w0 w : World} {F : HP} {v : Value} {l : List Int} {x : Int}
theorem Q9 (H : V w0 w F) (hr : jE w0 F .i32 v l) : ig prog 92 #[v, .int .i64 x] w fun u w' => u = .bool (decide (x < l.length)) ∧ V w0 w' F := by
  refine nC func92 ntmps92 ?_
  refine jy O (bM O (bG O (Z (fO (hr _ (H)) aj O) (Z (fF O O) (dU O (dF results92 O ?_))))))
  exact ⟨O, H⟩
theorem UF (H : V w0 w F) (hr : jE w0 F .i32 v l) : ig prog 93 #[v, .int .i64 x] w fun u w' => u = .bool (decide (0 < x)) ∧ V w0 w' F := by
  refine nC func93 ntmps93 ?_
  refine jy O (bM O (Z (iw O O) (dU O (dF results93 O ?_))))
  exact ⟨O, H⟩
theorem Rf (H : V w0 w F) (hr : jE w0 F .i32 v l) : ig prog 94 #[v, .int .i64 x] w fun u w' => u = .bool (decide (x < (l.length : Int) - 1)) ∧ V w0 w' F := by
  have SC : l.length ≤ 9223372036854775807 := by have := (hr _ H).open; obtain ⟨a, c, e, h3, h4, _⟩ := this; omega
  refine nC func94 ntmps94 ?_
  refine jy O (bM O (bG O (Z (fO (hr _ (H)) aj O) (Z (iG O O (by omega)) (Z (fF O O) (dU O (dF results94 O ?_)))))))
  exact ⟨O, H⟩
end
section
variable {w0 : World}
theorem Jc : Tf w0 (.func (.func 92) #[] #[]) fun l x => decide (x < l.length) := ⟨rfl, fun F W v l x H hr => ⟨92, [], [], _, _, rfl, func92, rfl, rfl, Q9 H hr⟩⟩
theorem KT : Tf w0 (.func (.func 93) #[] #[]) fun l x => decide (0 < x) := ⟨rfl, fun F W v l x H hr => ⟨93, [], [], _, _, rfl, func93, rfl, rfl, UF H hr⟩⟩
theorem Jd : Tf w0 (.func (.func 94) #[] #[]) fun l x => decide (x < (l.length : Int) - 1) := ⟨rfl, fun F W v l x H hr => ⟨94, [], [], _, _, rfl, func94, rfl, rfl, Rf H hr⟩⟩
end
section
variable {w0 w : World} {F : HP} {v fv : Value} {l : List Int} {x n : Int} {g : Int → Int} {I : Int → Prop}
theorem Rh (H : V w0 w F) (hf : ∀ W y, V w0 W F → I y → sV prog fv [.int .i64 y] W fun u W' => (u = .int .i64 (g y) ∧ I (g y)) ∧ V w0 W' F) (hx : I x) (hn : n ≤ 9223372036854775807) : ig prog 90 #[.int .i64 x, .int .i64 n, fv] w fun u w' => u = .int .i64 (qX g n.toNat x) ∧ V w0 w' F := by
 refine DL func90 ntmps90 ?_
 refine jy O (aK (bM O (bG O (iy (aV ?_)))))
 refine dJ [(2, _), (8, _)] (fun (⟨k, y⟩ : Nat × Int) => [(0, .int .i64 y), (9, .int .i64 (k : Int))]) (fun (⟨k, y⟩ : Nat × Int) W => ((k : Int) ≤ max n 0 ∧ I y ∧ qX g n.toNat x = qX g (n.toNat - k) y) ∧ V w0 W F) (fun (⟨k, y⟩ : Nat × Int) => n.toNat - k) ((0, x)) mW mW ⟨⟨by omega, hx, O⟩, H⟩ ?_
 rintro ⟨k, y⟩ w1 ⟨⟨hk, hy, he⟩, HL⟩
 dsimp only [List.cons_append, List.nil_append]
 refine gW (Z (fF O O) (qW (bI O (fun h1 => ?_) (fun h1 => ?_))))
 ·(try simp only [aC] at h1)
  refine fG (aK (aV (bM O (bG O (jL (oG O O (hf _ _ HL hy)) ?_)))))
  rintro _ w2 ⟨⟨rfl, hgy⟩, H2⟩
  refine tX O (bM O (bG O (Z (cZ O O) (gQ O (fun h2 => ?_) (fun h2 => ?_)))))
  ·(try simp only [aC] at h2)
   have heq : g y = y := h2
   refine bQ (aB ?_)
   refine Ce (by decide) ?_
   refine aB (aB (aU (aW (bM O (dU O (dF results90 O ?_))))))
   exact ⟨by rw [he]; first | rw [Iw heq] | (rw [show n.toNat - k = 0 from by omega]; rfl), H2⟩
  ·(try simp only [aC] at h2)
   have hne : ¬ g y = y := h2
   refine fG (aA (bG O (dL O (bD (aG (aW (aA (Z (dP O O (by omega)) (bG O (bD ?_))))))))))
   refine bZ ((k + 1, g y)) ?_ ?_ ?_ ?_
   ·exact mW
   ·exact mW
   ·(try dsimp only)
    first | done | exact ⟨⟨by omega, hgy, by rw [he, QE (by omega) hne]; rfl⟩, H2⟩
   ·(try dsimp only); omega
 ·(try simp only [aC] at h1)
  refine bQ (aB (aB (aU (aW (bM O (dU O (dF results90 O ?_)))))))
  exact ⟨by rw [he]; first | rw [Iw heq] | (rw [show n.toNat - k = 0 from by omega]; rfl), HL⟩
end
structure MP where
  ps : Nat
  pb : Nat
  pw : Nat
  pm : Nat
def O6 (p : MP) : Value := .func (.func 89) #[] #[.pointer (some ⟨p.pm, 0, none⟩), .pointer (some ⟨p.ps, 0, none⟩), .pointer (some ⟨p.pb, 0, none⟩), .pointer (some ⟨p.pw, 0, none⟩)]
def nS (p : MP) (sv : Value) (b t : Bool) (mv : Value) : HP := dS p.pm (.cells #[mv] 66 (0, 0)) • dS p.pw (.cells #[.bool t] 4 (0, 0)) • dS p.pb (.cells #[.bool b] 4 (0, 0)) • dS p.ps (.cells #[sv] 141 (0, 0))
section
variable {w0 w : World} {F : HP} {v sv mv : Value} {l : List Int} {x n : Int} {b t : Bool} {p : MP} {ps pl pb pw pm : Nat} {g : List Int → Int → Bool → Int} {I : List Int → Int → Prop} {m : List Int → Int → Bool}
theorem Ri (H : V w0 w (dS ps (.cells #[sv] 141 (0, 0)) • dS pl (.cells #[v] 22 (0, 0)) • dS pb (.cells #[.bool b] 4 (0, 0)) • F)) (hf : Jb w0 sv g I) (hr : jE w0 F .i32 v l) (hl : l.length ≤ 4611686018427387904) (hx : I l x) :
    ig prog 91 #[.int .i64 x, .pointer (some ⟨ps, 0, none⟩), .pointer (some ⟨pl, 0, none⟩), .pointer (some ⟨pb, 0, none⟩)] w fun u w' => (u = .int .i64 (g l x b) ∧ I l (g l x b)) ∧ V w0 w' (dS ps (.cells #[sv] 141 (0, 0)) • dS pl (.cells #[v] 22 (0, 0)) • dS pb (.cells #[.bool b] 4 (0, 0)) • F) := by
  refine TG func91 ntmps91 ?_
  dsimp only [vW, Nat.reduceAdd]
  refine jy O (gW (gJ underlying141 O (H).get.2 O (gJ aj O (H.f2).get.2 O (bG O (gJ bW O (H.f3).get.2 O (jL (oG O O (hf.2 _ _ _ l _ _ H (fun W HW => hr _ (HW.right.right.right)) hl hx)) ?_))))))
  rintro _ w1 ⟨⟨rfl, hgx⟩, H1⟩
  refine dU O (dF results91 O ?_)
  exact ⟨⟨O, hgx⟩, H1⟩
theorem zq (H : V w0 w (nS p sv b t mv • F)) (hf : Jb w0 sv g I) (hm : Tf w0 mv m) (hI : ∀ y, m l y = true → Yk l y → I l y) (hr : jE w0 F .i32 v l) (hl : l.length ≤ 4611686018427387904) (hx : Yk l x) (hn : n ≤ 9223372036854775807) :
  sV prog (O6 p) [v, .int .i64 x, .int .i64 n] w fun u w' => u = F7 (if m l x = true then (qX (fun y => g l y b) n.toNat x, t, true) else (0, false, false)) ∧ V w0 w' (nS p sv b t mv • F) := by
 obtain ⟨ps, pb, pw, pm⟩ := p
 refine ⟨_, [], _, _, _, O, func89, O, O, ?_⟩
 have H0 : V w0 w (dS pm (.cells #[mv] 66 (0, 0)) • dS pw (.cells #[.bool t] 4 (0, 0)) • dS pb (.cells #[.bool b] 4 (0, 0)) • dS ps (.cells #[sv] 141 (0, 0)) • F) := H.of_eq (by unfold nS; simp only [dB])
 have hback : ∀ {W : World}, V w0 W (dS pm (.cells #[mv] 66 (0, 0)) • dS pw (.cells #[.bool t] 4 (0, 0)) • dS pb (.cells #[.bool b] 4 (0, 0)) • dS ps (.cells #[sv] 141 (0, 0)) • F) → V w0 W (nS ⟨ps, pb, pw, pm⟩ sv b t mv • F) := fun h => h.of_eq (by unfold nS; simp only [dB])
 simp only [List.nil_append, List.cons_append]
 refine TG func89 ntmps89 ?_
 dsimp only [vW, Nat.reduceAdd]
 refine gW (jL (jf (l := [_]) H0 O (by first | rfl | exact BH (by first | rfl | exact Rd.one (hr _ (H0.right.right.right.right))))) ?_)
 rintro _ w1 ⟨b1, rfl, H1⟩
 refine dL O (dL O (tX O (gW (gJ underlying66 O (H1.f2).get.2 O (gJ aj O (H1).get.2 O (bG O (jL (oG O O (hm.2 _ _ _ l _ H1 (fun W HW => hr _ (HW.right.right.right.right.right)))) ?_)))))))
 rintro _ w2 ⟨rfl, H2⟩
 refine Z (mD O) (gQ O (fun h1 => ?_) (fun h1 => ?_))
 ·(try simp only [aC] at h1)
  have hno : ¬ m l x = true := by have h9 := h1; simpa using h9
  refine gW (dL O (dL O (dU O (ay ?_))))
  refine dW (.inl O) results89 O O O ?_
  exact ⟨by rw [if_neg hno]; rfl, hback H2.right.f4.f4.f4.f4⟩
 ·(try simp only [aC] at h1)
  have hyes : m l x = true := by have h9 := h1; simpa using h9
  refine fG (aK ?_)
  have BZ := H2.drew
  have iL := V.kp (BZ.f5.f5.f5.f5.f5)
  refine yY [4] iL O (jW 0 O iL O (jW 1 O iL O (jQ 2 O iL (fun _ => wY O O) (kK 4 O iL (fun W hW => kQ bW O ((Kp.h hW).f3).get.2 O) (oV 3 O (zx O func90 (Rh (g := fun y => g l y b) (I := I l) BZ (fun W y HW hy => ⟨_, [], _, _, _, O, func91, O, O, (Ri (F := dS pm (.cells #[mv] 66 (0, 0)) • dS pw (.cells #[.bool t] 4 (0, 0)) • F) (HW.of_eq (by ac_rfl)) hf (fun W HW => hr W HW.right.right) hl hy).mono fun u W2 h => ⟨h.1, h.2.of_eq (by ac_rfl)⟩⟩) (hI x hyes hx) hn)) ?_)))))
  rintro _ w3 ⟨rfl, H3⟩
  have zD := V.kp (H3.f5.f5.f5.f5.f5)
  refine eU zD (fun W hW => (Kp.h hW).f5.f5.f5.f5.f5) ?_
  refine jQ 5 O zD (fun _ => dY O) (jQ 6 O zD (fun _ => dY O) (jQ 7 O zD (fun _ => dY O) (sK (aW (mg ?_)))))
  refine dW (.inl O) results89 O O O ?_
  exact ⟨by rw [if_pos hyes]; rfl, hback H3.right.f4.f4.f4.f4⟩
end
end Go.Proofs.YtpdeedplgmbopaaGreatDoor
end
