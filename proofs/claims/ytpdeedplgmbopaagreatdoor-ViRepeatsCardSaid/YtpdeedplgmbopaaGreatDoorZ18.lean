import Derived.Test.YtpdeedplgmbopaaGreatDoorZ4
import Derived.Test.YtpdeedplgmbopaaGreatDoorZ17
import Derived.Test.YtpdeedplgmbopaaGreatDoorZ14
import Derived.Test.YtpdeedplgmbopaaGreatDoorZ11
import Derived.Test.YtpdeedplgmbopaaGreatDoorZ13
import Derived.Test.YtpdeedplgmbopaaGreatDoorZ10
import Derived.Test.YtpdeedplgmbopaaGreatDoorZ12
import Derived.Test.YtpdeedplgmbopaaGreatDoorZ16
import Derived.Test.YtpdeedplgmbopaaGreatDoorZ9
set_option linter.unusedSimpArgs false
set_option linter.unusedVariables false
/- Texts of mine, joined, their names in short: VD Atom2 EdCl VDo VB VGo. -/
section
namespace Go.Proofs.YtpdeedplgmbopaaGreatDoor
open Go.RowKit
open _root_.Go.Proofs.Tryz
abbrev VC (c m e : Nat) (name : ByteArray) (kv : Value) (n : Int) (g : Bool) (lv : Value) (p : Int) : HP := eP c (.cells #[.pointer (some ⟨m, 0, none⟩), .pointer (some ⟨e, 0, none⟩), .string name, kv, .int .i64 n, .bool g, lv, .int .i64 p] 130 (0, 0))
namespace bF
variable (s : bF)
def DT : Prop := s.c.mode = 2 ∧ 0 < s.c.L.length ∧ s.c.pt = s.c.L.length
instance : Decidable s.DT := by unfold DT; infer_instance
def Ko : Int := if s.DT then s.Eu ((s.c.L.length : Int) - 1) else 0
def IE : bF := if s.DT then s.uF ((s.c.L.length : Int) - 1) else s
end bF
section
variable {w0 w : World} {F : HP} {c m e : Nat} {s : bF} {name : ByteArray} {kv lv : Value} {n p : Int} {g : Bool}
theorem RD (H : V w0 w (VC c m e name kv n g lv p • eH e s • F)) : iQ prog 75 #[.pointer (some ⟨c, 0, none⟩)] w fun v w' => v = .int .i64 s.Ko ∧ V w0 w' (VC c m e name kv n g lv p • eH e s.IE • F) := by
 have Yk : s.c.L.length ≤ 1024 := by
  obtain ⟨pb, pr, pw, pt, pm, ph, bl, pv, es, u0, u1, u2, u3, u4, u5, u6, u7, u8, u9, ua, h, _, _, H2⟩ := H.f2.JV
  obtain ⟨a, c, xs, f, t, h1, h2, h3, h4, h5, h6, h7, _⟩ := H2.f2.buf
  exact h4
 refine ji func75 ntmps75 ?_
 refine ku O (bM O (dK O (bI 1 aN O jM O (fC dU O (H).get.2 O (dS O func28 (nI H.f2) ?_)))))
 rintro _ w1 ⟨u1, rfl, H1⟩
 refine kF (iR (l := [_, _, _]) H1 zeroValue46 O) ?_
 rintro _ w2 ⟨b2, rfl, H2⟩
 refine aJ (dG 0 (l' := [_, _, _]) (us := [_, _, _]) H2 sizeOf46 O O O (bg (by first | rfl | exact Rd.one ((H2.f2).aP)) (aG (aG bW))) O O) ?_
 rintro _ w3 H3
 refine rP (bM O (dK O (bI 1 aN O jM O (fC dU O (H3.f4).get.2 O (dS O func23 (Ru H3.f3) ?_)))))
 rintro _ w4 ⟨u4, ks4, us4, sv4, rfl, H4⟩
 refine aQ (oK 3 jQ O O (dA aC O) O O) (aQ (eF O O) (jm O (fun h1 => ?_) (fun h1 => ?_)))
 ·(try simp only [Z] at h1)
  refine aY (bI 0 iD O bV O (aY (fC ah O (H4.f6).get.2 O (aY (aQ (iT ((H4.f7).aP) ah O) (aY (aQ (eX O O) (je O O (jm O (fun h2 => ?_) (fun h2 => ?_))))))))))
  ·(try simp only [Z] at h2)
   refine aY (bI 1 iD O ay O (aY (fC aC O (H4.f6).get.2 O (aY (bI 0 iD O bV O (aY (fC ah O (H4.f6).get.2 O (aY (aQ (iT ((H4.f7).aP) ah O) (aY (aQ (eF O O) (je O O (jr O (fun h3 => ?_) (fun h3 => ?_))))))))))))))
   ·(try simp only [Z] at h3)
    refine aI ?_
    have afD := H4.drew
    have IG := V.kp (afD.f8.f8.f8.f8.f8.f8.f8.f8)
    refine uN [3, 5] IG O (gX 0 O IG O (jE 1 O IG O (gy 2 O IG 1 aN O jM O (jf 3 O IG (fun W hW => jv dU O ((Kp.h hW).f8).get.2 O) (gy 4 O IG 0 iD O bV O (jf 5 O IG (fun W hW => jv ah O ((Kp.h hW).f6).get.2 O) (iI 6 O IG (fun _ => iT ((afD.f7).aP) ah O) (iI 7 O IG (fun _ => jk O O (by omega)) (mQ 8 O (wR O func30 (tK afD.f5)) ?_)))))))))
    rintro _ w5 ⟨rfl, H5⟩
    have Dj := V.kp (H5.f8.f8.f8.f8.f8.f8.f8.f8)
    refine iK Dj (by kernel_rfl) ?_
    refine iI 9 O Dj (fun _ => dB O) (pq (aX (lQ (aA (dI results75 O ?_)))))
    have hp : s.DT := by unfold bF.DT; omega
    exact ⟨by unfold bF.Ko; rw [if_pos hp], by unfold bF.IE; rw [if_pos hp]; exact H5.f2.right.f2.right.f2.right.f2.right.f2.right.f2.right.f2⟩
   ·(try simp only [Z] at h3)
    refine fV (kC O (dI results75 O ?_))
    have hp : ¬ s.DT := by unfold bF.DT; omega
    exact ⟨by unfold bF.Ko; rw [if_neg hp], by unfold bF.IE; rw [if_neg hp]; exact H4.right.right.right.right.f2.right.f2.right.f2⟩
  ·(try simp only [Z] at h2)
   refine bn (bn (bn (bn (bn (bn (fG O O (iE (oh (fV (kC O (dI results75 O ?_)))))))))))
   have hp : ¬ s.DT := by unfold bF.DT; omega
   exact ⟨by unfold bF.Ko; rw [if_neg hp], by unfold bF.IE; rw [if_neg hp]; exact H4.right.right.right.right.f2.right.f2.right.f2⟩
 ·(try simp only [Z] at h1)
  refine bn (bn (bn (bn (fG O O (bJ O (bn (bn (bn (bn (bn (bn (fG O O (iE (oh (fV (kC O (dI results75 O ?_)))))))))))))))))
  have hp : ¬ s.DT := by unfold bF.DT; omega
  exact ⟨by unfold bF.Ko; rw [if_neg hp], by unfold bF.IE; rw [if_neg hp]; exact H4.right.right.right.right.f2.right.f2.right.f2⟩
theorem II (H : V w0 w F) : iQ prog 125 #[.string name] w fun v w' => v = .tuple #[.bool (decide (uY name ∨ qV name)), .bool (decide (uY name))] ∧ V w0 w' F := by
  refine ji func125 ntmps125 ?_
  refine iy (gU O (uf O (bM O (iE (bf ?_)))))
  refine kL [(4, _)] (fun (_ : Unit) => [(5, .bool (decide (uY name)))]) (fun (_ : Unit) W => V w0 W F) mO ?_ ?_
  · rintro _ w1 HJ
    dsimp only [List.cons_append, List.nil_append]
    refine aZ O (fun h1 => ?_) (fun h1 => ?_)
    · (try simp only [Z] at h1)
      refine iy (gU O (fA O (aU (aA (KP results125 O O ?_)))))
      have ht : uY name := by assumption
      exact ⟨by rw [decide_eq_true ht, decide_eq_true (Or.inl ht)], HJ⟩
    · (try simp only [Z] at h1)
      refine kL [] (fun (_ : Unit) => [(10, .bool (decide (qV name)))]) (fun (_ : Unit) W => V w0 W F) (Sub.nil _) ?_ ?_
      · rintro _ w2 HK
        dsimp only [List.cons_append, List.nil_append]
        refine aZ O (fun h2 => ?_) (fun h2 => ?_)
        · (try simp only [Z] at h2)
          refine iy (gU O (fA O (aU (aA (KP results125 O O ?_)))))
          have ht : ¬ uY name := by assumption
          have hc : qV name := by assumption
          exact ⟨by rw [decide_eq_false ht, decide_eq_true (Or.inr hc)], HK⟩
        · (try simp only [Z] at h2)
          refine dh (aH (aX (iy (gU O (fA O (KP results125 O O ?_))))))
          have ht : ¬ uY name := by assumption
          have hc : ¬ qV name := by assumption
          exact ⟨by rw [decide_eq_false ht, decide_eq_false (fun h => h.elim ht hc)], HK⟩
      · skip
        refine iy (aQ (bY O O) (dZ O (aZ O (fun h3 => ?_) (fun h3 => ?_))))
        · (try simp only [Z] at h3)
          refine dh ?_
          refine dD (()) ?_ ?_ ?_
          · exact (Sub.jW O (by first | exact tV (beq_iff_eq.2 (by assumption)) (by unfold qV; first | exact .inl (by assumption) | exact .inr (.inl (by assumption)) | exact .inr (.inr (.inl (by assumption))) | exact .inr (.inr (.inr (.inl (by assumption)))) | exact .inr (.inr (.inr (.inr (by assumption))))) | exact congrArg Value.bool (by rw [Bool.eq_iff_iff, decide_eq_true_iff, beq_iff_eq]; unfold qV; exact ⟨fun h => .inr (.inr (.inr (.inr h))), fun h => by rcases h with h | h | h | h | h <;> first | exact h | exact absurd h (by assumption)⟩)) (Sub.nil _))
          · exact (Sub.nil _)
          · (try dsimp only)
            first | done | exact HJ
        · (try simp only [Z] at h3)
          refine iy (aQ (bY O O) (dZ O (aZ O (fun h4 => ?_) (fun h4 => ?_))))
          · (try simp only [Z] at h4)
            refine dh ?_
            refine dD (()) ?_ ?_ ?_
            · exact (Sub.jW O (by first | exact tV (beq_iff_eq.2 (by assumption)) (by unfold qV; first | exact .inl (by assumption) | exact .inr (.inl (by assumption)) | exact .inr (.inr (.inl (by assumption))) | exact .inr (.inr (.inr (.inl (by assumption)))) | exact .inr (.inr (.inr (.inr (by assumption))))) | exact congrArg Value.bool (by rw [Bool.eq_iff_iff, decide_eq_true_iff, beq_iff_eq]; unfold qV; exact ⟨fun h => .inr (.inr (.inr (.inr h))), fun h => by rcases h with h | h | h | h | h <;> first | exact h | exact absurd h (by assumption)⟩)) (Sub.nil _))
            · exact (Sub.nil _)
            · (try dsimp only)
              first | done | exact HJ
          · (try simp only [Z] at h4)
            refine iy (aQ (bY O O) (dZ O (aZ O (fun h5 => ?_) (fun h5 => ?_))))
            · (try simp only [Z] at h5)
              refine dh ?_
              refine dD (()) ?_ ?_ ?_
              · exact (Sub.jW O (by first | exact tV (beq_iff_eq.2 (by assumption)) (by unfold qV; first | exact .inl (by assumption) | exact .inr (.inl (by assumption)) | exact .inr (.inr (.inl (by assumption))) | exact .inr (.inr (.inr (.inl (by assumption)))) | exact .inr (.inr (.inr (.inr (by assumption))))) | exact congrArg Value.bool (by rw [Bool.eq_iff_iff, decide_eq_true_iff, beq_iff_eq]; unfold qV; exact ⟨fun h => .inr (.inr (.inr (.inr h))), fun h => by rcases h with h | h | h | h | h <;> first | exact h | exact absurd h (by assumption)⟩)) (Sub.nil _))
              · exact (Sub.nil _)
              · (try dsimp only)
                first | done | exact HJ
            · (try simp only [Z] at h5)
              refine iy (aQ (bY O O) (dZ O (aZ O (fun h6 => ?_) (fun h6 => ?_))))
              · (try simp only [Z] at h6)
                refine dh ?_
                refine dD (()) ?_ ?_ ?_
                · exact (Sub.jW O (by first | exact tV (beq_iff_eq.2 (by assumption)) (by unfold qV; first | exact .inl (by assumption) | exact .inr (.inl (by assumption)) | exact .inr (.inr (.inl (by assumption))) | exact .inr (.inr (.inr (.inl (by assumption)))) | exact .inr (.inr (.inr (.inr (by assumption))))) | exact congrArg Value.bool (by rw [Bool.eq_iff_iff, decide_eq_true_iff, beq_iff_eq]; unfold qV; exact ⟨fun h => .inr (.inr (.inr (.inr h))), fun h => by rcases h with h | h | h | h | h <;> first | exact h | exact absurd h (by assumption)⟩)) (Sub.nil _))
                · exact (Sub.nil _)
                · (try dsimp only)
                  first | done | exact HJ
              · (try simp only [Z] at h6)
                refine aB (aQ (bY O O) (gU O (bZ ?_)))
                refine dD (()) ?_ ?_ ?_
                · exact (Sub.jW O (by first | exact tV (beq_iff_eq.2 (by assumption)) (by unfold qV; first | exact .inl (by assumption) | exact .inr (.inl (by assumption)) | exact .inr (.inr (.inl (by assumption))) | exact .inr (.inr (.inr (.inl (by assumption)))) | exact .inr (.inr (.inr (.inr (by assumption))))) | exact congrArg Value.bool (by rw [Bool.eq_iff_iff, decide_eq_true_iff, beq_iff_eq]; unfold qV; exact ⟨fun h => .inr (.inr (.inr (.inr h))), fun h => by rcases h with h | h | h | h | h <;> first | exact h | exact absurd h (by assumption)⟩)) (Sub.nil _))
                · exact (Sub.nil _)
                · (try dsimp only)
                  first | done | exact HJ
  · skip
    refine iy (aQ (bY O O) (dZ O (aZ O (fun h7 => ?_) (fun h7 => ?_))))
    · (try simp only [Z] at h7)
      refine dh ?_
      refine dD (()) ?_ ?_ ?_
      · exact (Sub.jW O (by first | exact tV (beq_iff_eq.2 (by assumption)) (by unfold uY; first | exact .inl (by assumption) | exact .inr (.inl (by assumption)) | exact .inr (.inr (.inl (by assumption))) | exact .inr (.inr (.inr (by assumption)))) | exact congrArg Value.bool (by rw [Bool.eq_iff_iff, decide_eq_true_iff, beq_iff_eq]; unfold uY; exact ⟨fun h => .inr (.inr (.inr h)), fun h => by rcases h with h | h | h | h <;> first | exact h | exact absurd h (by assumption)⟩)) (Sub.nil _))
      · exact mO
      · (try dsimp only)
        first | done | exact H
    · (try simp only [Z] at h7)
      refine iy (aQ (bY O O) (dZ O (aZ O (fun h8 => ?_) (fun h8 => ?_))))
      · (try simp only [Z] at h8)
        refine dh ?_
        refine dD (()) ?_ ?_ ?_
        · exact (Sub.jW O (by first | exact tV (beq_iff_eq.2 (by assumption)) (by unfold uY; first | exact .inl (by assumption) | exact .inr (.inl (by assumption)) | exact .inr (.inr (.inl (by assumption))) | exact .inr (.inr (.inr (by assumption)))) | exact congrArg Value.bool (by rw [Bool.eq_iff_iff, decide_eq_true_iff, beq_iff_eq]; unfold uY; exact ⟨fun h => .inr (.inr (.inr h)), fun h => by rcases h with h | h | h | h <;> first | exact h | exact absurd h (by assumption)⟩)) (Sub.nil _))
        · exact mO
        · (try dsimp only)
          first | done | exact H
      · (try simp only [Z] at h8)
        refine iy (aQ (bY O O) (dZ O (aZ O (fun h9 => ?_) (fun h9 => ?_))))
        · (try simp only [Z] at h9)
          refine dh ?_
          refine dD (()) ?_ ?_ ?_
          · exact (Sub.jW O (by first | exact tV (beq_iff_eq.2 (by assumption)) (by unfold uY; first | exact .inl (by assumption) | exact .inr (.inl (by assumption)) | exact .inr (.inr (.inl (by assumption))) | exact .inr (.inr (.inr (by assumption)))) | exact congrArg Value.bool (by rw [Bool.eq_iff_iff, decide_eq_true_iff, beq_iff_eq]; unfold uY; exact ⟨fun h => .inr (.inr (.inr h)), fun h => by rcases h with h | h | h | h <;> first | exact h | exact absurd h (by assumption)⟩)) (Sub.nil _))
          · exact mO
          · (try dsimp only)
            first | done | exact H
        · (try simp only [Z] at h9)
          refine aB (aQ (bY O O) (gU O (bZ ?_)))
          refine dD (()) ?_ ?_ ?_
          · exact (Sub.jW O (by first | exact tV (beq_iff_eq.2 (by assumption)) (by unfold uY; first | exact .inl (by assumption) | exact .inr (.inl (by assumption)) | exact .inr (.inr (.inl (by assumption))) | exact .inr (.inr (.inr (by assumption)))) | exact congrArg Value.bool (by rw [Bool.eq_iff_iff, decide_eq_true_iff, beq_iff_eq]; unfold uY; exact ⟨fun h => .inr (.inr (.inr h)), fun h => by rcases h with h | h | h | h <;> first | exact h | exact absurd h (by assumption)⟩)) (Sub.nil _))
          · exact mO
          · (try dsimp only)
            first | done | exact H
end
end Go.Proofs.YtpdeedplgmbopaaGreatDoor
end
section
namespace Go.Proofs.YtpdeedplgmbopaaGreatDoor
open Go.RowKit Go.Lib
section
variable {P : Program} {L : List (Nat × Value)} {w0 w : World} {F : HP} {ty : TypeId} {b : Nat} {v d : Int} {t : TypeId}
theorem UE {u : Value} (hc : w.cell? ⟨b, 0, none⟩ = some u) (hz : w.frozen? ⟨b, 0, none⟩ = false) : (Extern.Atomic.storeT #[.pointer (some ⟨b, 0, none⟩), .int .i64 d]).run P w = .ok Extern.Atomic.none_ (w.setCell ⟨b, 0, none⟩ (.int .i64 d)) := by
  change Sem.run P (do store (← asAddr (.pointer (some ⟨b, 0, none⟩))) (.int .i64 d) .atomic; pure Extern.Atomic.none_) w = _
  simp [asAddr, run_store _ _ _ _ _ (rfl : (Value.int .i64 d).oneCell' = true), hc, hz, Result.andThen]
theorem Zy {f : FuncId} {args : List Operand} {ts : Array TypeId} {fn : Func} (H : V w0 w (eP b (.cells #[.int .i64 v] t (0, 0)) • F)) (ha : FV L args = some [.pointer (some ⟨b, 0, none⟩), .int .i64 d])
    (hf : P.funcs[f]? = some fn) (hname : (fn.name == "runtime.NumGoroutine") = false) (hb : fn.body.isNone = true) (hn : Extern.findNext fn = none) (he : Extern.find fn = some Extern.Atomic.storeT) :
    xU P L (.call ⟨.value (.func f), args.toArray, ts⟩) ty w fun u w' => V w0 w' (eP b (.cells #[.int .i64 d] t (0, 0)) • F) :=
  aaV ha hf hname hb hn he (UE (kS H.get.2 rfl) (D7 H.get.2)) (H.setCell (i := 0) _)
theorem NH (H : V w0 w (eP b (.cells #[.int .i64 v] t (0, 0)) • F)) : iQ Tryz.prog 123 #[.pointer (some ⟨b, 0, none⟩), .int .i64 d] w fun u w' => V w0 w' (eP b (.cells #[.int .i64 d] t (0, 0)) • F) := by
 refine qc Tryz.func123 Tryz.ntmps123 ?_
 refine aB (oq O O (bI 0 Tryz.underlying161 O Tryz.sizeOf2 O (bJ O (kF (Zy H O Tryz.func159 O O (by kernel_rfl) (by kernel_rfl)) ?_))))
 rintro _ w1 H1
 refine bZ (mX (.inr O) Tryz.results123 ?_)
 exact H1
end
end Go.Proofs.YtpdeedplgmbopaaGreatDoor
end
section
namespace Go.Proofs.YtpdeedplgmbopaaGreatDoor
open Go.RowKit
open _root_.Go.Proofs.Tryz
section
variable {w0 w : World} {F : HP} {e : Nat} {s : bF}
theorem Gj (H : V w0 w (eH e s • F)) (hi : s.inn = false) : iQ prog 70 #[.pointer (some ⟨e, 0, none⟩)] w fun v w' => ∃ q, v = .pointer (some ⟨q, 0, none⟩) ∧ V w0 w' (eH e s • F) := by
 refine ji func70 ntmps70 ?_
 refine ku O (aI (bM O (dS O func65 (tJ H) ?_)))
 rintro _ _ ⟨rfl, rfl⟩
 refine iE (oh (fV (aI ?_)))
 obtain ⟨zB, zC, zD, zF, zG, zH, zI, zJ, xM, wu, wz, wB, wC, wE, wF, wG, wH, wI, wJ, wK, iZ, dL, lU, jo⟩ := (H).JV
 have hwo := AA (jo.f11)
 simp only [List.all_cons, List.all_nil, Bool.and_true, Bool.and_eq_true] at hwo
 obtain ⟨o0, o1, o2, o3, o4, o5, o6, o7, o8, o9, oa⟩ := hwo
 have hon := (jo.f10).Eo
 have hpl : s.put.length ≤ 16384 := by have h9 := iZ.2.2.2.2.1; unfold ig at h9; omega
 refine aB (oq O O (aQ (dV aj O sizeOf82 O O (jo).get.2) (kF (iR (l := [_, _, _, _, _, _, _, _, _, _, _, _, _, _, _, _, _, _, _, _, _, _, _, _, _, _, _, _, _, _, _, _, _, _]) jo zeroValue82 O) ?_)))
 rintro _ w3 ⟨b3, rfl, H3⟩
 refine aJ (dG 0 (l' := [_, _, _, _, _, _, _, _, _, _, _, _, _, _, _, _, _, _, _, _, _, _, _, _, _, _, _, _, _, _, _, _, _, _]) (us := [_, _, _, _, _, _, _, _, _, _, _, _, _, _, _, _, _, _, _, _, _, _, _, _, _, _, _, _, _, _, _, _, _, _]) H3 sizeOf82 O O O (aG (aG (aG (aG (aG (aG (aG (aG (aG (aG (aG (aG (aG (aG (aG (aG (aG (aG (aG (aG (aG (aG (aG (aG (aG (aG (aG (aG (aG (aG (aG (aG (aG (bg (by first | rfl | exact Rd.one ((H3.f10).aP)) bW)))))))))))))))))))))))))))))))))) O O) ?_
 rintro _ w4 H4
 refine sG O (dK O (bI 0 aj O aV O (aQ (pY 0 (xs := [_, _, _, _, _, _, _, _, _, _, _]) aK O aV O O (H4.f2).get.2 O) (dS O func80 (Ua H4.f7.f7.f7.f7.f7) ?_))))
 rintro _ w5 ⟨qb5, qr5, qw5, qt5, qm5, rfl, H5⟩
 refine bI 0 aj O aV O (aJ (dG 0 (l' := [_, _, _, _, _, _, _, _, _, _, _, _, _, _, _, _, _, _, _, _, _, _, _, _, _, _, _, _, _, _, _, _, _, _]) (us := [_, _, _, _, _, _, _, _, _, _, _]) H5.f11 aV O O O (aG (aG (aG (aG (aG (aG (aG (aG (aG (aG (aG bW))))))))))) O O) ?_)
 rintro _ w6 H6
 have Hd7 := H6.f5.right
 have Hd8 := Hd7.f2.right
 have Hd9 := Hd8.f2.right
 have adj := Hd9.f2.right
 have VX := adj.f2.right
 refine rP (bM O (dK O (bI 16 aj O aS O (fC cZ O (VX.f7).get.2 O (jr O (fun h => by exfalso; (try simp only [Z] at h); rw [hi] at h; simp at h) (fun h1 => ?_))))))
 (try simp only [Z] at h1)
 refine fV (bM O (dK O (bI 11 aj O sizeOf78 O (fC lM O (VX.f7).get.2 O (dS O func109 (xg VX.f8) ?_)))))
 rintro _ w12 ⟨q12, rfl, vM⟩
 refine bI 11 aj O sizeOf78 O (aJ (gG 11 vM.f3 sizeOf78) ?_)
 rintro _ PD xI
 have ac6 := xI.f2.right
 refine sG O (dK O (bI 33 aj O bU O (fC aW O (ac6.f8).get.2 O (dS O func122 (DN ac6 (fun W HW => (HW.f10).aP) hon (by omega)) ?_))))
 rintro u15 QI yA
 refine bI 33 aj O bU O (aJ (gB 33 (l' := [_, _, _, _, _, _, _, _, _, _, _, _, _, _, _, _, _, _, _, _, _, _, _, _, _, _, _, _, _, _, _, _, _, _]) yA.f2 bU O O (by first | rfl | exact Rd.one ((yA).aP)) O O) ?_)
 rintro _ w16 vN
 have VY := vN.f2.right
 refine zk7 (aQ (fU (zl := [.int .i64 0]) (pl := [(0, 0), (0, 0), (0, 1)]) [_] underlying161 zeroValue161 O (fun w => by kernel_rfl) O (.zero (zs := []) O (.zero (zs := []) O (.zero (zs := [.int .i64 0]) O .nil))) O) (kF (jF (l := [_]) VY O O) ?_))
 rintro _ w18 ⟨b18, rfl, DZ⟩
 refine bI 12 aj O sizeOf79 O (aJ (gG 12 DZ.f2 sizeOf79) ?_)
 rintro _ w19 Ef
 refine rP ?_
 have RF := Ef.drew
 have Dw := V.kp (RF.f13.f13.f13.f13.f13.f13.f13.f13.f13.f13.f13.f13.f13)
 refine uN [1, 5] Dw O (gy 0 O Dw 12 aj O sizeOf79 O (jf 1 O Dw (fun W hW => jv underlying79 O ((Kp.h hW)).get.2 O) (gX 2 O Dw O (jE 3 O Dw O (gy 4 O Dw 12 aj O sizeOf79 O (jf 5 O Dw (fun W hW => jv underlying79 O ((Kp.h hW).f9).get.2 O) (mQ 6 O (wR O func68 (qE RF.f10)) ?_)))))))
 rintro _ _ ⟨rfl, rfl⟩
 have Ez := V.kp (RF.f13.f13.f13.f13.f13.f13.f13.f13.f13.f13.f13.f13.f13)
 refine fD Ez (fun W hW => (Kp.h hW).f13.f13.f13.f13.f13.f13.f13.f13.f13.f13.f13.f13.f13) ?_
 refine mQ 7 O (wR O func123 (NH RF.f2)) ?_
 rintro _ w21 vF
 have abj := V.kp (vF.f13.f13.f13.f13.f13.f13.f13.f13.f13.f13.f13.f13.f13)
 refine iK abj (by kernel_rfl) ?_
 refine pq (aX (kC O (dI results70 O ?_)))
 have abM := vF.f13.f13.f13.f13.f7.f12.f12.f12.f12.f12.f13
 have abN := V.jg (s := s) iZ dL abM
 exact ⟨_, O, abN.f2.right.f2.right⟩
end
def GV (w0 : World) (name : ByteArray) (keys : List Int) (n : Int) (g : Bool) (s : bF) (M : VM) (Q : Int → bF → VM → Prop) : Prop := ∀ (F : HP) (W : World) (c m e : Nat) (kv lv : Value), V w0 W (VC c m e name kv n g lv s.c.pt • jw 21 .i32 lv s.c.L • jY m M • eH e s • F) → jh w0 F .i32 kv keys →
  iQ prog 124 #[.pointer (some ⟨c, 0, none⟩)] W fun v W' => ∃ x t M', Q x t M' ∧ v = .int .i64 x ∧ V w0 W' (VC c m e name kv n g lv s.c.pt • jw 21 .i32 lv s.c.L • jY m M' • eH e t • F)
def VM.did (M : VM) (name : ByteArray) (keys : List Int) (n x : Int) : VM := if (uY name ∨ qV name) ∧ x = 0 then { M with name := name, keys := keys, n := n, typed := [] } else M
def bF.Vt (t : bF) (x : Int) : Int := if x = 0 then t.IE.Cj t.Ko else t.Cj x
def bF.doS (t : bF) (x : Int) : bF := if x = 0 then t.IE.lD t.Ko else t.lD x
def VM.doM (M M' : VM) (name : ByteArray) (keys : List Int) (n x r : Int) : VM := if r = 0 then M'.did name keys n x else M
section
variable {w0 w : World} {F : HP} {c m e : Nat} {s : bF} {name : ByteArray} {kv lv : Value} {keys : List Int} {n p x : Int} {g : Bool} {M M' : VM} {Q : Int → bF → VM → Prop}
theorem Lh (h : uY name ∨ qV name) (hx : x = 0) : M.did name keys n x = { M with name := name, keys := keys, n := n, typed := [] } := if_pos ⟨h, hx⟩
theorem EM (h : ¬ ((uY name ∨ qV name) ∧ x = 0)) : M.did name keys n x = M := if_neg h
theorem Zz (H : V w0 w (VC c m e name kv n g lv s.c.pt • jw 21 .i32 lv s.c.L • jY m M • eH e s • F)) (hk : jh w0 F .i32 kv keys) (h1 : GV w0 name keys n g s M Q) (hkl : keys.length * 4 ≤ 140737488355328) (hw : jS name keys = 0) (hn : 1 ≤ n ∧ n ≤ 1000000) :
  iQ prog 74 #[.pointer (some ⟨c, 0, none⟩)] w fun v w' => ∃ x t M', Q x t M' ∧ v = .int .i64 x ∧ V w0 w' (VC c m e name kv n g lv s.c.pt • jw 21 .i32 lv s.c.L • jY m (M'.did name keys n x) • eH e t • F) := by
 refine ji func74 ntmps74 ?_
 refine ku O (bM O (dS O func124 (h1 _ _ _ _ _ _ _ H hk) ?_))
 rintro _ w1 ⟨x, t, M2, hQ, rfl, H1⟩
 refine uf O (bM O (dK O (bI 2 aN O eG O (fC dw O (H1).get.2 O (dS O func125 (II H1) ?_)))))
 rintro _ w2 ⟨rfl, H2⟩
 refine bJ O (pW O O (pW O O (gU O (dZ O (bM O (jm O (fun h1 => ?_) (fun h1 => ?_)))))))
 ·(try simp only [Z] at h1)
  refine aY (bJ O (aY (aQ (eF O O) (je O O (jr O (fun h2 => ?_) (fun h2 => ?_))))))
  ·(try simp only [Z] at h2)
   obtain ⟨NG, KJ, Ju, tX, wL⟩ := (H2.f3).vm
   have hcg : uY name ∨ qV name := by assumption
   have hx0 : x = 0 := by assumption
   have ahp := wL.drew
   have yQ := V.kp (ahp.f7.f7.f7.f7.f7.f7.f7)
   refine uN [3, 7, 11, 16] yQ O (gX 0 O yQ O (jE 1 O yQ O (gy 2 O yQ 0 aN O vX O (jf 3 O yQ (fun W hW => jv fO O ((Kp.h hW).f5).get.2 O) (gX 4 O yQ O (jE 5 O yQ O (gy 6 O yQ 2 aN O eG O (jf 7 O yQ (fun W hW => jv dw O ((Kp.h hW).f5).get.2 O) (gX 8 O yQ O (jE 9 O yQ O (gy 10 O yQ 3 aN O bV O (jf 11 O yQ (fun W hW => jv ah O ((Kp.h hW).f5).get.2 O) (gX 13 O yQ O (jE 14 O yQ O (gy 15 O yQ 4 aN O ay O (jf 16 O yQ (fun W hW => jv aC O ((Kp.h hW).f5).get.2 O) (mQ 12 O (wR O func71 (oL ahp (fun W HW => hk _ (HW.right.right.right.right.right.right.right)) (by omega))) ?_)))))))))))))))))
   rintro u4 w4 H4
   have BN := V.kp (H4.f8.f8.f8.f8.f8.f8.f8.f8)
   refine fD BN (fun W hW => (Kp.h hW).right.f7.f7.f7.f7.f7.f7.f7) ?_
   refine iI 17 O BN (fun _ => fU (zl := [.string .empty, .slice none 0 0, .int .i64 0, .slice none 0 0]) (pl := [(0, 1), (1, 1), (2, 1), (3, 1)]) [_, _, _, _] jd zeroValue117 O (fun w => by kernel_rfl) O (.on (.one (Rd.one ((H4).aP)) (.on (.zero (zs := [.slice none 0 0]) O .nil)))) O) ?_
   refine jE 18 O BN O (gy 19 O BN 3 gQ O rO O ?_)
   refine iH 20 O (by kernel_rfl) (dG 3 (l' := [_, _, _, _, _, _, _, _]) (us := [_, _, _, _]) H4.f2 rO O O O (aG (bg (by first | rfl | exact Rd.one ((H4).aP)) (aG (aG bW)))) O O) ?_
   rintro _ w5 H5
   have Dj := V.kp (H5.f8.f8.f8.f8.f8.f8.f8.f8)
   refine iK Dj (by kernel_rfl) ?_
   have Ho6 := H5.f2
   have Hc7 := Ho6.mY
   have Ho8 := Hc7.f3.f3
   have Vr := V.afA (M := { M2 with name := name, keys := keys, n := n, typed := [] }) ⟨hkl, by show ([] : List Int).length ≤ 1024; decide, .inr ⟨hcg, hw, hn.1, hn.2⟩⟩ rfl Ho8
   refine pq (aX (bM O (fA O (dI results74 O ?_))))
   exact ⟨_, _, M2, hQ, O, by first | (rw [Lh hcg hx0]; exact Vr.f2.right.f2.right.f4.f2.f4.f4) | (rw [EM (fun hc => absurd hc.2 (by assumption))]; exact Vr.f2.right.f2.right.f4.f2.f4.f4) | (rw [EM (fun hc => absurd (decide_eq_true hc.1) (by simp only [*]; decide))]; exact Vr.f2.right.f2.right.f4.f2.f4.f4)⟩
  ·(try simp only [Z] at h2)
   refine fV (bM O (fA O (dI results74 O ?_)))
   exact ⟨_, _, M2, hQ, O, by first | (rw [Lh hcg hx0]; exact H2.f4.f4.f4.f4) | (rw [EM (fun hc => absurd hc.2 (by assumption))]; exact H2.f4.f4.f4.f4) | (rw [EM (fun hc => absurd (decide_eq_true hc.1) (by simp only [*]; decide))]; exact H2.f4.f4.f4.f4)⟩
 ·(try simp only [Z] at h1)
  refine bn (bn (fG O O (iE (oh (fV (bM O (fA O (dI results74 O ?_))))))))
  exact ⟨_, _, M2, hQ, O, by first | (rw [Lh hcg hx0]; exact H2.f4.f4.f4.f4) | (rw [EM (fun hc => absurd hc.2 (by assumption))]; exact H2.f4.f4.f4.f4) | (rw [EM (fun hc => absurd (decide_eq_true hc.1) (by simp only [*]; decide))]; exact H2.f4.f4.f4.f4)⟩
theorem Qg (s : bF) (h : nT s) : 1 ≤ max s.count 1 ∧ max s.count 1 ≤ 1000000 := by
  have h := h.2.2.1
  unfold bF.count
  dsimp only
  by_cases h1 : s.given = true <;> by_cases h2 : s.arg < 0 <;> by_cases h3 : s.minus = true <;> simp only [h1, h2, h3, if_true, if_false, Bool.false_eq_true] <;> omega
theorem abO (H : V w0 w (eH e s • F)) : nT s := by
  obtain ⟨pb, pr, pw, pt, pm, ph, bl, pv, es, u0, u1, u2, u3, u4, u5, u6, u7, u8, u9, ua, h, _⟩ := H.JV
  exact h
theorem RH (H : V w0 w (jY m M • eH e s • F)) (hi : s.inn = false) (hk : jh w0 F .i32 kv keys) (hkl : keys.length * 4 ≤ 140737488355328) (hw : jS name keys = 0) (hone : GV w0 name keys (max s.bH.count 1) s.bH.given s.bH M Q) :
  iQ prog 24 #[.pointer (some ⟨m, 0, none⟩), .pointer (some ⟨e, 0, none⟩), .string name, kv] w fun v w' => ∃ x t M', Q x t M' ∧ v = .int .i64 (t.Vt x) ∧ V w0 w' (jY m (M.doM M' name keys (max s.bH.count 1) x (t.Vt x)) • eH e (t.doS x) • F) := by
 refine QD func24 ntmps24 ?_
 refine ku O (aI (bf (bM O (dS O func69 (BF H) ?_))))
 rintro _ _ ⟨rfl, rfl⟩
 refine bJ O (aY (bJ O (aY (dS O func70 (Gj H.f2 hi) ?_))))
 rintro _ w2 ⟨cl2, rfl, H2⟩
 refine aY (aQ (iJ dU O O) (fG O O (dZ O (Oh O (fun h1 => ?_)))))
 (try simp only [Z] at h1)
 refine bM O (bJ O (dS O func16 (AQ H2 (fun W HW => hk _ (HW.right.right))) ?_))
 rintro _ w3 ⟨rfl, H3⟩
 refine aQ (eF O O) (dZ O (aZ O (fun h => by exfalso; (try simp only [Z] at h); rw [hw] at h; exact absurd h (by decide)) (fun h2 => ?_)))
 (try simp only [Z] at h2)
 refine bM O (bJ O (dS O func16 (AQ H3 (fun W HW => hk _ (HW.right.right))) ?_))
 rintro _ w4 ⟨rfl, H4⟩
 refine aQ (gY O O) (dZ O (aZ O (fun h => by exfalso; (try simp only [Z] at h); exact h hw) (fun h3 => ?_)))
 (try simp only [Z] at h3)
 refine dh (aH (aX (aI (bM O (dS O func29 (Ij H4) ?_)))))
 rintro _ w5 ⟨rfl, H5⟩
 refine dZ O (bM O (aQ (gY O O) (jr O (fun h => by exfalso; (try simp only [Z] at h); exact h (by unfold bF.Dp; rw [if_neg (by simp [hi])])) (fun h4 => ?_))))
 (try simp only [Z] at h4)
 refine fV (bM O (dS O func38 (Rz H5.f2) ?_))
 rintro _ w6 ⟨c6, rfl, H6⟩
 have hco := Qg s.bH (abO H6.f3)
 refine dZ O (bM O (jX O O (bJ O (dS O func71 (oL H6 (fun W HW => hk _ (HW.right.right.right)) (by omega)) ?_))))
 rintro u7 w7 H7
 refine bJ O (dS O func72 (Rk H7.f4) ?_)
 rintro _ w8 ⟨rfl, H8⟩
 refine aQ (SH O O) (bJ O (dS O func73 (Rl H8) ?_))
 rintro _ w9 ⟨rfl, H9⟩
 refine aQ (fU (zl := [.pointer none, .pointer none, .string .empty, .slice none 0 0, .int .i64 0, .bool false, .slice none 0 0, .int .i64 0]) (pl := [(0, 1), (1, 1), (2, 1), (3, 1), (4, 1), (5, 1), (6, 1), (7, 1)]) [_, _, _, _, _, _, _, _] aN zeroValue130 O (fun w => by kernel_rfl) O (.on (.on (.on (.one (Rd.one ((H9.f2).aP)) (.on (.on (.zero (zs := [.slice none 0 0]) O (.zero (zs := [.int .i64 0]) O .nil)))))))) O) ?_
 refine kF (jF (l := [_, _, _, _, _, _, _, _]) H9 O O) ?_
 rintro _ w10 ⟨b10, rfl, pz⟩
 refine dZ O (bM O (dS O func28 (nI pz.f2) ?_))
 rintro _ FM ⟨u11, rfl, rY⟩
 refine kF (iR (l := [_, _, _]) rY zeroValue46 O) ?_
 rintro _ w12 ⟨b12, rfl, vM⟩
 refine aJ (dG 0 (l' := [_, _, _]) (us := [_, _, _]) vM sizeOf46 O O O (bg (by first | rfl | exact Rd.one ((vM.f2).aP)) (aG (aG bW))) O O) ?_
 rintro _ PD xI
 refine rP ?_
 have WY := xI.drew
 have zN := V.kp (WY.f4.right.f6.f6.f6.f6.f6.f6)
 refine uN [3, 5] zN O (gX 0 O zN O (gX 1 O zN O (gy 2 O zN 0 iD O bV O (jf 3 O zN (fun W hW => jv ah O ((Kp.h hW)).get.2 O) (gy 4 O zN 1 iD O ay O (jf 5 O zN (fun W hW => jv aC O ((Kp.h hW)).get.2 O) (jE 6 O zN O (gy 7 O zN 6 aN O bV O ?_))))))))
 refine iH 8 O (by kernel_rfl) (gB 6 (l' := [_, _, _, _, _, _, _, _]) WY.f4 bV O O (by first | rfl | exact Rd.one ((WY.f2).aP)) O O) ?_
 rintro _ Pz yF
 have Hz := V.kp (yF.f7.f7.f7.f7.f7.f7.f7)
 refine fD Hz (fun W hW => (Kp.h hW).right.f6.f6.f6.f6.f6.f6) ?_
 refine jE 9 O Hz O (gy 10 O Hz 7 aN O ay O ?_)
 refine iH 11 O (by kernel_rfl) (gB 7 (l' := [_, _, _, _, _, _, _, _]) yF ay O O (by first | rfl | assumption) O O) ?_
 rintro _ QI yA
 have y9 := V.kp (yA.f7.f7.f7.f7.f7.f7.f7)
 refine iK y9 (by kernel_rfl) ?_
 refine pq (aX (bM O (dS O func74 (Zz yA.f4.f7.f5.f4 (fun W HW => (HW.f2).aP) hone hkl hw hco) ?_)))
 rintro _ w16 ⟨x, t, M2, hQ, rfl, vN⟩
 refine uf O (bM O (aQ (eF O O) (jr O (fun h5 => ?_) (fun h5 => ?_))))
 ·(try simp only [Z] at h5)
  have hx : x = 0 := h5
  refine aB (bJ O (dS O func75 (RD vN.f4.f2) ?_))
  rintro _ Z5 ⟨rfl, DF⟩
  refine uf O (bM O (bJ O (dS O func31 (GL DF.f2) ?_)))
  rintro _ w18 ⟨rfl, DZ⟩
  refine dZ O (bM O (aQ (gY O O) (jr O (fun h6 => ?_) (fun h6 => ?_))))
  ·(try simp only [Z] at h6)
   obtain ⟨NG, KJ, Ju, tX, wL⟩ := (DZ.f4).vm
   obtain ⟨ahq, ahr, ahs, WZ, IJ⟩ := (wL.f10).vm
   refine aB (jX O O (dK O (aQ (dV gQ O sizeOf119 O O (IJ).get.2) (dK O (aJ (dG 0 (l' := [_, _, _, _, _, _, _, _]) (us := [_, _, _, _, _, _, _, _]) IJ.f5 sizeOf119 O O O (aG (aG (aG (aG (bg (by first | rfl | exact Rd.one ((IJ.f3).kD)) (aG (bg (by first | rfl | exact Rd.one ((IJ.f4).kD)) (aG bW)))))))) O O) ?_)))))
   rintro _ w21 vF
   have ai1 := vF.f5.f5.f5.f4
   have adk := V.CS (M := M) WZ ai1
   refine sG O (fA O (dI results24 O ?_))
   refine ⟨x, t, M2, hQ, by unfold bF.Vt; first | rw [if_pos hx] | rw [if_neg hx], ?_⟩
   unfold VM.doM bF.Vt bF.doS
   first | (rw [if_pos hx, if_pos hx, if_pos (by assumption)]; exact adk.f2.right.f2.right.f2.right.f2.right.f3.right.f3.right.f3.right.f3.right.f2.f2) | (rw [if_pos hx, if_pos hx, if_neg (by assumption)]; exact adk.f2.right.f2.right.f2.right.f2.right.f3.right.f3.right.f3.right.f3.right.f2.f2) | (rw [if_neg hx, if_neg hx, if_pos (by assumption)]; exact adk.f2.right.f2.right.f2.right.f2.right.f3.right.f3.right.f3.right.f3.right.f2.f2) | (rw [if_neg hx, if_neg hx, if_neg (by assumption)]; exact adk.f2.right.f2.right.f2.right.f2.right.f3.right.f3.right.f3.right.f3.right.f2.f2)
  ·(try simp only [Z] at h6)
   refine fV (bM O (fA O (dI results24 O ?_)))
   refine ⟨x, t, M2, hQ, by unfold bF.Vt; first | rw [if_pos hx] | rw [if_neg hx], ?_⟩
   unfold VM.doM bF.Vt bF.doS
   first | (rw [if_pos hx, if_pos hx, if_pos (by assumption)]; exact DZ.f2.right.f2.right.f3.right.f3.right.f3.right.f2) | (rw [if_pos hx, if_pos hx, if_neg (by assumption)]; exact DZ.f2.right.f2.right.f3.right.f3.right.f3.right.f2) | (rw [if_neg hx, if_neg hx, if_pos (by assumption)]; exact DZ.f2.right.f2.right.f3.right.f3.right.f3.right.f2) | (rw [if_neg hx, if_neg hx, if_neg (by assumption)]; exact DZ.f2.right.f2.right.f3.right.f3.right.f3.right.f2)
 ·(try simp only [Z] at h5)
  have hx : ¬ x = 0 := h5
  refine fV (aI (bM O (bJ O (dS O func31 (GL vN.f4) ?_))))
  rintro _ w24 ⟨rfl, Oi⟩
  refine dZ O (bM O (aQ (gY O O) (jr O (fun h7 => ?_) (fun h7 => ?_))))
  ·(try simp only [Z] at h7)
   obtain ⟨NG, KJ, Ju, tX, wL⟩ := (Oi.f4).vm
   obtain ⟨ahq, ahr, ahs, WZ, IJ⟩ := (wL.f10).vm
   refine aB (jX O O (dK O (aQ (dV gQ O sizeOf119 O O (IJ).get.2) (dK O (aJ (dG 0 (l' := [_, _, _, _, _, _, _, _]) (us := [_, _, _, _, _, _, _, _]) IJ.f5 sizeOf119 O O O (aG (aG (aG (aG (bg (by first | rfl | exact Rd.one ((IJ.f3).kD)) (aG (bg (by first | rfl | exact Rd.one ((IJ.f4).kD)) (aG bW)))))))) O O) ?_)))))
   rintro _ w27 KR
   have ae6 := KR.f5.f5.f5.f4
   have Y7 := V.CS (M := M) WZ ae6
   refine sG O (fA O (dI results24 O ?_))
   refine ⟨x, t, M2, hQ, by unfold bF.Vt; first | rw [if_pos hx] | rw [if_neg hx], ?_⟩
   unfold VM.doM bF.Vt bF.doS
   first | (rw [if_pos hx, if_pos hx, if_pos (by assumption)]; exact Y7.f2.right.f2.right.f2.right.f2.right.f3.right.f3.right.f3.right.f3.right.f2.f2) | (rw [if_pos hx, if_pos hx, if_neg (by assumption)]; exact Y7.f2.right.f2.right.f2.right.f2.right.f3.right.f3.right.f3.right.f3.right.f2.f2) | (rw [if_neg hx, if_neg hx, if_pos (by assumption)]; exact Y7.f2.right.f2.right.f2.right.f2.right.f3.right.f3.right.f3.right.f3.right.f2.f2) | (rw [if_neg hx, if_neg hx, if_neg (by assumption)]; exact Y7.f2.right.f2.right.f2.right.f2.right.f3.right.f3.right.f3.right.f3.right.f2.f2)
  ·(try simp only [Z] at h7)
   refine fV (bM O (fA O (dI results24 O ?_)))
   refine ⟨x, t, M2, hQ, by unfold bF.Vt; first | rw [if_pos hx] | rw [if_neg hx], ?_⟩
   unfold VM.doM bF.Vt bF.doS
   first | (rw [if_pos hx, if_pos hx, if_pos (by assumption)]; exact Oi.f2.right.f2.right.f3.right.f3.right.f3.right.f2) | (rw [if_pos hx, if_pos hx, if_neg (by assumption)]; exact Oi.f2.right.f2.right.f3.right.f3.right.f3.right.f2) | (rw [if_neg hx, if_neg hx, if_pos (by assumption)]; exact Oi.f2.right.f2.right.f3.right.f3.right.f3.right.f2) | (rw [if_neg hx, if_neg hx, if_neg (by assumption)]; exact Oi.f2.right.f2.right.f3.right.f3.right.f3.right.f2)
theorem adl (H : V w0 w (jY m M • eH e s • F)) (hi : s.inn = false) (hk : jh w0 F .i32 kv keys) (hw : ¬ jS name keys = 0) :
    iQ prog 24 #[.pointer (some ⟨m, 0, none⟩), .pointer (some ⟨e, 0, none⟩), .string name, kv] w fun v w' => v = .int .i64 (if jS name keys = -1 then 4 else 1) ∧ V w0 w' (jY m M • eH e s • F) := by
  refine QD func24 ntmps24 ?_
  refine ku O (aI (bf (bM O (dS O func69 (BF H) ?_))))
  rintro _ _ ⟨rfl, rfl⟩
  refine bJ O (aY (bJ O (aY (dS O func70 (Gj H.f2 hi) ?_))))
  rintro _ w2 ⟨cl2, rfl, H2⟩
  refine aY (aQ (iJ dU O O) (fG O O (dZ O (Oh O (fun h1 => ?_)))))
  (try simp only [Z] at h1)
  refine bM O (bJ O (dS O func16 (AQ H2 (fun W HW => hk _ (HW.right.right))) ?_))
  rintro _ w3 ⟨rfl, H3⟩
  refine aQ (eF O O) (dZ O (aZ O (fun h2 => ?_) (fun h2 => ?_)))
  · (try simp only [Z] at h2)
    have hm := h2
    refine kC O (aU (aA (dI results24 O ?_)))
    exact ⟨by rw [if_pos hm], H3.f2⟩
  · (try simp only [Z] at h2)
    have hm := h2
    refine bM O (bJ O (dS O func16 (AQ H3 (fun W HW => hk _ (HW.right.right))) ?_))
    rintro _ w4 ⟨rfl, H4⟩
    refine aQ (gY O O) (dZ O (aZ O (fun h3 => ?_) (fun h => by exfalso; (try simp only [Z] at h); exact hw h)))
    (try simp only [Z] at h3)
    refine kC O (aU (aA (dI results24 O ?_)))
    exact ⟨by rw [if_neg hm], H4.f2⟩
end
end Go.Proofs.YtpdeedplgmbopaaGreatDoor
end
section
namespace Go.Proofs.YtpdeedplgmbopaaGreatDoor
open Go.RowKit Go.Lib
def adn : ByteArray := ⟨#[40, 91, 123, 41, 93, 125]⟩
def UF : ByteArray := ⟨#[41, 93, 125]⟩
def UG : ByteArray := ⟨#[40, 91, 123]⟩
def CU (r : Int) : Int := if r = 40 then 0 else if r = 91 then 1 else if r = 123 then 2 else if r = 41 then 3 else if r = 93 then 4 else 5
theorem Lj {r : Int} (h : zL r = true) : r = 40 ∨ r = 91 ∨ r = 123 ∨ r = 41 ∨ r = 93 ∨ r = 125 := by unfold zL at h; simp at h; omega
theorem Yn {r : Int} : r ∈ rJ adn ↔ zL r = true := by
  rw [show rJ adn = [40, 91, 123, 41, 93, 125] from by rfl]
  unfold zL; simp; omega
theorem afE {r : Int} (h : zL r = true) : indexByte adn.data.toList (r % 256).toNat.toUInt8 = CU r := by
  rcases Lj h with rfl | rfl | rfl | rfl | rfl | rfl <;> rfl
theorem abP (r : Int) : 0 ≤ CU r ∧ CU r ≤ 5 := by
  unfold CU
  repeat' split
  all_goals omega
theorem Ll {r : Int} (h : zL r = true) (hk : CU r < 3) : sb UF (CU r % 3).toNat = Jp r ∧ Iw r = 1 := by
  rcases Lj h with rfl | rfl | rfl | rfl | rfl | rfl <;> first | exact ⟨rfl, rfl⟩ | exact absurd hk (by decide)
theorem Lm {r : Int} (h : zL r = true) (hk : 3 ≤ CU r) : sb UG (CU r - 3).toNat = Jp r ∧ Iw r = -1 := by
  rcases Lj h with rfl | rfl | rfl | rfl | rfl | rfl <;> first | exact ⟨rfl, rfl⟩ | exact absurd hk (by decide)
theorem ado (r : Int) : Iw r = 1 ∨ Iw r = -1 := by unfold Iw; split <;> simp
theorem adp {r : Int} (h : zL r = true) : Jp r ≠ r := by rcases Lj h with rfl | rfl | rfl | rfl | rfl | rfl <;> decide
theorem adq (i : Nat) : 0 ≤ sb UF i ∧ sb UF i < 128 := aer (by decide) i
theorem adr (i : Nat) : 0 ≤ sb UG i ∧ sb UG i < 128 := aer (by decide) i
def AV (a b d x : Int) : Int := d + (if x = a then 1 else 0) - (if x = b then 1 else 0)
theorem ZA {a b d x : Int} (h : AV a b d x = 0) : Nv a b d x = none := if_pos h
theorem abQ {a b d x : Int} (h : ¬ AV a b d x = 0) : Nv a b d x = some (AV a b d x) := if_neg h
theorem ads {a b d x : Int} (h : x = a) (hab : b ≠ a) : AV a b d x = d + 1 := by unfold AV; rw [if_pos h, if_neg (by omega)]; omega
theorem adt {a b d x : Int} (h : ¬ x = a) (hb : x = b) : AV a b d x = d - 1 := by unfold AV; rw [if_neg h, if_pos hb]; omega
theorem adu {a b d x : Int} (h : ¬ x = a) (hb : ¬ x = b) : AV a b d x = d := by unfold AV; rw [if_neg h, if_neg hb]; omega
theorem abR (a b d x : Int) : d - 1 ≤ AV a b d x ∧ AV a b d x ≤ d + 1 := by unfold AV; split <;> split <;> omega
section
variable {l : List Int} {x i j : Int}
theorem UH (h : (l.length : Int) ≤ mJ (fun r => !zL r) l x) : AL l x = (0, false, false) := if_pos h
theorem Gl (e : mJ (fun r => !zL r) l x = i) (h : i < l.length) (hs : zf (Iw (l.getD i.toNat 0)) (Nv (l.getD i.toNat 0) (Jp (l.getD i.toNat 0))) l 0 i = none) : AL l x = (0, false, false) := by
  unfold AL; rw [e, if_neg (by omega), hs]
theorem OJ (e : mJ (fun r => !zL r) l x = i) (h : i < l.length) (hs : zf (Iw (l.getD i.toNat 0)) (Nv (l.getD i.toNat 0) (Jp (l.getD i.toNat 0))) l 0 i = some j) : AL l x = (j, true, true) := by
  unfold AL; rw [e, if_neg (by omega), hs]
end
section
variable {w0 w : World} {F : HP} {v : Value} {l : List Int} {x n key c r : Int} {s : ByteArray}
theorem ZB (h : zL r = true) : iQ Tryz.prog 98 #[.string ⟨#[40, 91, 123, 41, 93, 125]⟩, .int .u8 (r % 256)] w fun v w' => v = .int .i64 (CU r) ∧ w = w' := IB.mono fun v w' h2 => ⟨h2.1.trans (congrArg (Value.int .i64) (afE h)), h2.2⟩
theorem RI (H : V w0 w F) (hr : jh w0 F .i32 v l) (hx : 0 ≤ x ∧ x ≤ l.length) (Yk : l.length ≤ 4611686018427387904) : iQ Tryz.prog 43 #[v, .int .i64 x] w fun u w' => u = Zt (AL l x) ∧ V w0 w' F := by
 refine qc Tryz.func43 Tryz.ntmps43 ?_
 refine iy (gU O (gU O (uf O (bM O (dZ O (bf ?_))))))
 refine iC [(0, _)] (fun (i : Int) => [(7, .int .i64 i)]) (fun (i : Int) W => ((0 ≤ i ∧ i ≤ l.length) ∧ mJ (fun r => !zL r) l i = mJ (fun r => !zL r) l x) ∧ V w0 W F) (fun (i : Int) => (l.length - i).toNat) (x) mO mO ⟨⟨hx, O⟩, H⟩ ?_
 rintro i w1 ⟨⟨hi, hE⟩, HL⟩
 dsimp only [List.cons_append, List.nil_append]
 refine aI (bM O (bJ O (aQ (iT (hr _ (HL)) ah O) (aQ (gW O O) (jr O (fun h1 => ?_) (fun h1 => ?_))))))
 ·(try simp only [Z] at h1)
  refine fV (aI (bf (aI (bM O (bJ O ?_)))))
  obtain ⟨bv, ov, cv, ev⟩ := fJ.rW (hr _ (HL)) (by omega)
  cases ev
  refine aQ (dM ah bK O O (by omega)) ?_
  refine aQ (fF (dA bC O) O (by first | exact fJ.lX (hr _ (HL)) (by omega) | exact fJ.xJ (hr _ (HL)) (by omega) | exact fJ.xH (hr _ (HL)) (by omega))) ?_
  refine dS O Tryz.func50 (yD (s := adn) (by decide)) ?_
  rintro _ _ ⟨rfl, rfl⟩
  refine aQ (kG O) (jr O (fun h2 => ?_) (fun h2 => ?_))
  ·(try simp only [Z] at h2)
   have hno : zL (l.getD i.toNat 0) = false := by have h9 := h2; rw [← Bool.not_eq_true, ← Yn]; simpa using h9
   refine dR (aO (bG (aX (aB (bJ O (aQ (fQ O O (by omega)) (gU O (bZ ?_))))))))
   refine dX (i + 1) ?_ ?_ ?_ ?_
   ·exact mO
   ·exact mO
   ·(try dsimp only)
    first | done | exact ⟨⟨by omega, (uV hi.1 (by omega) (by show (!zL _) = true; rw [hno]; rfl)).symm.trans hE⟩, HL⟩
   ·(try dsimp only); omega
  ·(try simp only [Z] at h2)
   have hbr : zL (l.getD i.toNat 0) = true := by have h9 := h2; rw [← Yn]; simpa using h9
   have hR : mJ (fun r => !zL r) l x = i := hE.symm.trans (nU hi.1 (by omega) (by show ¬ (!zL _) = true; rw [hbr]; decide))
   have hkb := abP (l.getD i.toNat 0)
   refine fV (bM O (bJ O (aQ (dM ah bK O O (by omega)) ?_)))
   refine aQ (fF (dA bC O) O (by first | exact fJ.lX (hr _ (HL)) (by omega) | exact fJ.xJ (hr _ (HL)) (by omega) | exact fJ.xH (hr _ (HL)) (by omega))) ?_
   refine aQ (P5 O (by rw [Tryz.underlying21]; rfl) Tryz.underlying5) ?_
   refine dS O Tryz.func98 (ZB hbr) ?_
   rintro _ _ ⟨rfl, rfl⟩
   refine uf O ?_
   have afF := HL.drew
   have NI := V.kp (afF)
   refine uN [2] NI O (gX 0 O NI O ?_)
   refine iI 1 O NI (fun _ => aah O O (by omega) (by  omega)) ?_
   refine jf 2 O NI (fun W hW => J7 dw O O (by exact ⟨by omega, by show _ < (3 : Int); omega⟩)) ?_
   refine iI 3 O NI (fun _ => sU O (by rw [Tryz.underlying5]; rfl) bC (Fv (by have := adq (CU (l.getD i.toNat 0) % 3).toNat; show -2147483648 ≤ sb UF _ ∧ sb UF _ < 2147483648; omega))) ?_
   refine iI 4 O NI (fun _ => dB O) (iI 5 O NI (fun _ => dB O) (pq (aX ?_)))
   refine kL [(0, _), (7, _)] (fun (_ : Unit) => [(9, .int .i64 (Iw (l.getD i.toNat 0))), (10, .int .i32 (Jp (l.getD i.toNat 0)))]) (fun (_ : Unit) W => V w0 W F) uh ?_ ?_
   ·rintro _ w4 HJ
    dsimp only [List.cons_append, List.nil_append]
    have hst := ado (l.getD i.toNat 0)
    have hne := adp hbr
    refine ku O (aI (bM O (dZ O (bf ?_))))
    have hmi := Jq (n := l.length) (i := i) hst (by omega) (by omega)
    refine iC [(0, _), (7, _), (9, _), (10, _)] (fun (⟨j, d⟩ : Int × Int) => [(11, .int .i64 d), (12, .int .i64 j)]) (fun (⟨j, d⟩ : Int × Int) W => ((-1 ≤ j ∧ j ≤ l.length) ∧ (d + Gi (Iw (l.getD i.toNat 0)) l.length j ≤ l.length + 1 ∧ Gi (Iw (l.getD i.toNat 0)) l.length j - d ≤ l.length + 1) ∧ zf (Iw (l.getD i.toNat 0)) (Nv (l.getD i.toNat 0) (Jp (l.getD i.toNat 0))) l 0 i = zf (Iw (l.getD i.toNat 0)) (Nv (l.getD i.toNat 0) (Jp (l.getD i.toNat 0))) l d j) ∧ V w0 W F) (fun (⟨j, d⟩ : Int × Int) => (Gi (Iw (l.getD i.toNat 0)) l.length j).toNat) ((i, 0)) JF uh ⟨⟨by omega, by omega, O⟩, HJ⟩ ?_
    rintro ⟨j, d⟩ w5 ⟨⟨hj, hd, hF⟩, HM⟩
    dsimp only [List.cons_append, List.nil_append]
    have hms := Ny (n := l.length) (i := j) hst
    have hmp := fun h0 h1 => Jq (n := l.length) (i := j) hst h0 h1
    have hdb := abR (l.getD i.toNat 0) (Jp (l.getD i.toNat 0)) d (l.getD j.toNat 0)
    refine aI (bM O (aQ (lI O O) (jm O (fun h3 => ?_) (fun h3 => ?_))))
    ·(try simp only [Z] at h3)
     refine aY (bJ O (aY (bJ O (aY (aQ (jH ah O) (aY (aQ (gW O O) (je O O (jr O (fun h4 => ?_) (fun h4 => ?_))))))))))
     ·(try simp only [Z] at h4)
      refine fV (aI (bf ?_))
      refine kL [(0, _), (7, _), (9, _), (10, _), (12, _), (46, _), (47, _), (48, _), (49, _)] (fun (_ : Unit) => [(11, .int .i64 (AV (l.getD i.toNat 0) (Jp (l.getD i.toNat 0)) d (l.getD j.toNat 0)))]) (fun (_ : Unit) W => V w0 W F) (Sub.cons O (Sub.cons O (Sub.cons O KO))) ?_ ?_
      ·rintro _ w6 HK
       dsimp only [List.cons_append, List.nil_append]
       refine bM O (aQ (eF O O) (jr O (fun h5 => ?_) (fun h5 => ?_)))
       ·(try simp only [Z] at h5)
        have hd0 : AV (l.getD i.toNat 0) (Jp (l.getD i.toNat 0)) d (l.getD j.toNat 0) = 0 := h5
        refine bM O (gU O (gU O (fA O (aU (aA (aA (aU (aA (aU (aA (aA (aU (aA ?_)))))))))))))
        refine iP (.inl O) Tryz.results43 O O O ?_
        exact ⟨by rw [OJ hR (by omega) (hF.trans (FB (by omega) (by omega) (ZA hd0)))]; rfl, HK⟩
       ·(try simp only [Z] at h5)
        have hd0 : ¬ AV (l.getD i.toNat 0) (Jp (l.getD i.toNat 0)) d (l.getD j.toNat 0) = 0 := h5
        refine dh (aH (aX (aB (jX O O (aQ (fQ O O (by omega)) (gU O (bZ ?_)))))))
        refine dX (_, _) uh JF (by (try dsimp only); exact ⟨⟨by omega, by omega, hF.trans (Nu hst (by omega) (by omega) (abQ hd0))⟩, HK⟩) ?_
        ·(try dsimp only); have := hmp (by omega) (by omega); omega
      ·skip
       refine aI ?_
       have hmq := hmp (by omega) (by omega)
       refine aB (jX O O (aQ (dM ah bK O O (by omega)) ?_))
       refine aQ (fF (dA bC O) O (by first | exact fJ.lX (hr _ (HM)) (by omega) | exact fJ.xJ (hr _ (HM)) (by omega) | exact fJ.xH (hr _ (HM)) (by omega))) ?_
       refine iE (bf (bM O (bJ O (aQ (dM ah bK O O (by omega)) ?_))))
       refine aQ (fF (dA bC O) O (by first | exact fJ.lX (hr _ (HM)) (by omega) | exact fJ.xJ (hr _ (HM)) (by omega) | exact fJ.xH (hr _ (HM)) (by omega))) ?_
       refine aQ (eF O O) (dZ O (aZ O (fun h6 => ?_) (fun h6 => ?_)))
       ·(try simp only [Z] at h6)
        have ha : l.getD j.toNat 0 = l.getD i.toNat 0 := h6
        have hdN := ads (d := d) ha hne
        refine aB (bJ O (aQ (fQ O O (by omega)) (gU O (bZ (aH ?_)))))
        refine dD (()) ?_ ?_ ?_
        ·exact (Sub.jW O (by rw [hdN]) (Sub.nil _))
        ·exact (Sub.cons O (Sub.cons O (Sub.cons O KO)))
        ·(try dsimp only)
         first | done | exact HM
       ·(try simp only [Z] at h6)
        have ha : ¬ l.getD j.toNat 0 = l.getD i.toNat 0 := h6
        refine bM O (aQ (eF O O) (dZ O (aZ O (fun h7 => ?_) (fun h7 => ?_))))
        ·(try simp only [Z] at h7)
         have hdN := adt (d := d) ha h7
         refine aB (bJ O (aQ (jk O O (by omega)) (gU O (bZ (aH ?_)))))
         refine dD (()) ?_ ?_ ?_
         ·exact (Sub.jW O (by rw [hdN]) (Sub.nil _))
         ·exact (Sub.cons O (Sub.cons O (Sub.cons O KO)))
         ·(try dsimp only)
          first | done | exact HM
        ·(try simp only [Z] at h7)
         have hdN := adu (d := d) ha h7
         refine dh (aH ?_)
         refine dD (()) ?_ ?_ ?_
         ·exact (Sub.jW O (by rw [hdN]) (Sub.nil _))
         ·exact (Sub.cons O (Sub.cons O (Sub.cons O KO)))
         ·(try dsimp only)
          first | done | exact HM
     ·(try simp only [Z] at h4)
      refine dR (aO (aO (bG (aX (iy (gU O (gU O (fA O (aU (aA (aA (aU (aA ?_)))))))))))))
      refine iP (.inl O) Tryz.results43 O O O ?_
      exact ⟨by rw [Gl hR (by omega) (hF.trans (Fz (by omega)))]; rfl, HM⟩
    ·(try simp only [Z] at h3)
     refine bn (bn (bn (bn (fG O O (iE (oh (dR (aO (aO (bG (aX (iy (gU O (gU O (fA O (aU (aA (aA (aU (aA ?_))))))))))))))))))))
     refine iP (.inl O) Tryz.results43 O O O ?_
     exact ⟨by rw [Gl hR (by omega) (hF.trans (Fz (by omega)))]; rfl, HM⟩
   ·skip
    refine bM O (aQ (lI O O) (jr O (fun h8 => ?_) (fun h8 => ?_)))
    ·(try simp only [Z] at h8)
     have hk3 : 3 ≤ CU (l.getD i.toNat 0) := h8
     have aht := afF.drew
     have NJ := V.kp (aht)
     refine uN [2] NJ O (gX 0 O NJ O (iI 1 O NJ (fun _ => jk O O (by omega)) ?_))
     refine jf 2 O NJ (fun W hW => J7 dw O O (by exact ⟨by omega, by show _ < (3 : Int); omega⟩)) ?_
     refine iI 3 O NJ (fun _ => sU O (by rw [Tryz.underlying5]; rfl) bC (Fv (by have := adr (CU (l.getD i.toNat 0) - 3).toNat; show -2147483648 ≤ sb UG _ ∧ sb UG _ < 2147483648; omega))) ?_
     refine iI 4 O NJ (fun _ => dB O) (iI 5 O NJ (fun _ => dB O) (pq ?_))
     refine dD (()) ?_ ?_ ?_
     ·exact (Sub.jW O (by first | exact congrArg (Value.int .i64) (Ll hbr (by assumption)).2.symm | exact congrArg (Value.int .i64) (Lm hbr (by assumption)).2.symm) (Sub.jW O (by first | exact congrArg (Value.int .i32) (Ll hbr (by assumption)).1 | exact congrArg (Value.int .i32) (Lm hbr (by assumption)).1) (Sub.nil _)))
     ·exact uh
     ·(try dsimp only)
      first | done | exact aht
    ·(try simp only [Z] at h8)
     have hk3 : CU (l.getD i.toNat 0) < 3 := by have h9 := h8; omega
     refine dh ?_
     refine dD (()) ?_ ?_ ?_
     ·exact (Sub.jW O (by first | exact congrArg (Value.int .i64) (Ll hbr (by assumption)).2.symm | exact congrArg (Value.int .i64) (Lm hbr (by assumption)).2.symm) (Sub.jW O (by first | exact congrArg (Value.int .i32) (Ll hbr (by assumption)).1 | exact congrArg (Value.int .i32) (Lm hbr (by assumption)).1) (Sub.nil _)))
     ·exact uh
     ·(try dsimp only)
      first | done | exact afF
 ·(try simp only [Z] at h1)
  refine dR (aO (aO (bG (aX (iy (gU O (gU O (fA O ?_))))))))
  refine iP (.inl O) Tryz.results43 O O O ?_
  exact ⟨by rw [UH (by rw [← hE, kY (by omega)]; omega)]; rfl, HL⟩
end
end Go.Proofs.YtpdeedplgmbopaaGreatDoor
end
section
namespace Go.Proofs.YtpdeedplgmbopaaGreatDoor
open Go.RowKit
open _root_.Go.Proofs.Tryz
def NK (w0 : World) (fv : Value) (g : List Int → Int → Bool → Int) (I : List Int → Int → Prop) : Prop := fv.oneCell' = true ∧ ∀ (F : HP) (W : World) (v : Value) (l : List Int) (x : Int) (b : Bool), V w0 W F → jh w0 F .i32 v l → l.length ≤ 4611686018427387904 → I l x →
  wS prog fv [v, .int .i64 x, .bool b] W fun u W' => (u = .int .i64 (g l x b) ∧ I l (g l x b)) ∧ V w0 W' F
def Yo (w0 : World) (fv : Value) (m : List Int → Int → Bool) : Prop := fv.oneCell' = true ∧ ∀ (F : HP) (W : World) (v : Value) (l : List Int) (x : Int), V w0 W F → jh w0 F .i32 v l →
  wS prog fv [v, .int .i64 x] W fun u W' => u = .bool (m l x) ∧ V w0 W' F
def inL (l : List Int) (x : Int) : Prop := 0 ≤ x ∧ x ≤ l.length
def ahu (l : List Int) (x : Int) : Prop := 0 ≤ x ∧ x < l.length
section
variable {w0 : World}
theorem Qh (hT : vZ w0) : NK w0 (.func (.func 95) #[] #[]) Bz inL :=
  ⟨rfl, fun F W v l x b H hr hl hx => ⟨95, [], [], _, _, rfl, func95, rfl, rfl, (Zq H hr hT hx.1 hx.2).mono fun u W' h => ⟨⟨h.1, by have := aby l b hx.1 hx.2; exact ⟨Int.le_trans hx.1 this.1, this.2⟩⟩, h.2⟩⟩⟩
theorem Qi (hT : vZ w0) : NK w0 (.func (.func 96) #[] #[]) DR inL :=
  ⟨rfl, fun F W v l x b H hr hl hx => ⟨96, [], [], _, _, rfl, func96, rfl, rfl, (Zr H hr hT hx.1 hx.2).mono fun u W' h => ⟨⟨h.1, by have := abz l b hx.1 hx.2; exact ⟨this.1, Int.le_trans this.2 hx.2⟩⟩, h.2⟩⟩⟩
theorem step_end (hT : vZ w0) : NK w0 (.func (.func 97) #[] #[]) KH ahu :=
  ⟨rfl, fun F W v l x b H hr hl hx => ⟨97, [], [], _, _, rfl, func97, rfl, rfl, (abx H hr hT hx.1 (Int.le_of_lt hx.2) hl).mono fun u W' h => ⟨⟨h.1, by have := adf l b hx.1 hx.2; exact ⟨Int.le_trans hx.1 this.1, this.2⟩⟩, h.2⟩⟩⟩
end
section
variable {w0 w : World} {F : HP} {v : Value} {l : List Int} {x : Int}
theorem W9 (H : V w0 w F) (hr : jh w0 F .i32 v l) : iQ prog 92 #[v, .int .i64 x] w fun u w' => u = .bool (decide (x < l.length)) ∧ V w0 w' F := by
  refine qc func92 ntmps92 ?_
  refine ku O (bM O (bJ O (aQ (iT (hr _ (H)) ah O) (aQ (gW O O) (fA O (dI results92 O ?_))))))
  exact ⟨O, H⟩
theorem ZC (H : V w0 w F) (hr : jh w0 F .i32 v l) : iQ prog 93 #[v, .int .i64 x] w fun u w' => u = .bool (decide (0 < x)) ∧ V w0 w' F := by
  refine qc func93 ntmps93 ?_
  refine ku O (bM O (aQ (eX O O) (fA O (dI results93 O ?_))))
  exact ⟨O, H⟩
theorem Xa (H : V w0 w F) (hr : jh w0 F .i32 v l) : iQ prog 94 #[v, .int .i64 x] w fun u w' => u = .bool (decide (x < (l.length : Int) - 1)) ∧ V w0 w' F := by
  have Yk : l.length ≤ 9223372036854775807 := by have := (hr _ H).open; obtain ⟨a, c, e, h3, h4, _⟩ := this; omega
  refine qc func94 ntmps94 ?_
  refine ku O (bM O (bJ O (aQ (iT (hr _ (H)) ah O) (aQ (jk O O (by omega)) (aQ (gW O O) (fA O (dI results94 O ?_)))))))
  exact ⟨O, H⟩
end
section
variable {w0 : World}
theorem NM : Yo w0 (.func (.func 92) #[] #[]) fun l x => decide (x < l.length) := ⟨rfl, fun F W v l x H hr => ⟨92, [], [], _, _, rfl, func92, rfl, rfl, W9 H hr⟩⟩
theorem Qj : Yo w0 (.func (.func 93) #[] #[]) fun l x => decide (0 < x) := ⟨rfl, fun F W v l x H hr => ⟨93, [], [], _, _, rfl, func93, rfl, rfl, ZC H hr⟩⟩
theorem NQ : Yo w0 (.func (.func 94) #[] #[]) fun l x => decide (x < (l.length : Int) - 1) := ⟨rfl, fun F W v l x H hr => ⟨94, [], [], _, _, rfl, func94, rfl, rfl, Xa H hr⟩⟩
end
section
variable {w0 w : World} {F : HP} {v fv : Value} {l : List Int} {x n : Int} {g : Int → Int} {I : Int → Prop}
theorem Xb (H : V w0 w F) (hf : ∀ W y, V w0 W F → I y → wS prog fv [.int .i64 y] W fun u W' => (u = .int .i64 (g y) ∧ I (g y)) ∧ V w0 W' F) (hx : I x) (hn : n ≤ 9223372036854775807) : iQ prog 90 #[.int .i64 x, .int .i64 n, fv] w fun u w' => u = .int .i64 (CP g n.toNat x) ∧ V w0 w' F := by
 refine zk func90 ntmps90 ?_
 refine ku O (aI (bM O (bJ O (iE (bf ?_)))))
 refine iC [(2, _), (8, _)] (fun (⟨k, y⟩ : Nat × Int) => [(0, .int .i64 y), (9, .int .i64 (k : Int))]) (fun (⟨k, y⟩ : Nat × Int) W => ((k : Int) ≤ max n 0 ∧ I y ∧ CP g n.toNat x = CP g (n.toNat - k) y) ∧ V w0 W F) (fun (⟨k, y⟩ : Nat × Int) => n.toNat - k) ((0, x)) uh uh ⟨⟨by omega, hx, O⟩, H⟩ ?_
 rintro ⟨k, y⟩ w1 ⟨⟨hk, hy, he⟩, HL⟩
 dsimp only [List.cons_append, List.nil_append]
 refine iy (aQ (gW O O) (rP (aZ O (fun h1 => ?_) (fun h1 => ?_))))
 ·(try simp only [Z] at h1)
  refine fV (aI (bf (bM O (bJ O (kF (qN O O (hf _ _ HL hy)) ?_)))))
  rintro _ w2 ⟨⟨rfl, hgy⟩, H2⟩
  refine uf O (bM O (bJ O (aQ (eF O O) (jr O (fun h2 => ?_) (fun h2 => ?_)))))
  ·(try simp only [Z] at h2)
   have heq : g y = y := h2
   refine dR (aO ?_)
   refine FU (by decide) ?_
   refine aO (aO (bG (aX (bM O (fA O (dI results90 O ?_))))))
   exact ⟨by rw [he]; first | rw [Nw heq] | (rw [show n.toNat - k = 0 from by omega]; rfl), H2⟩
  ·(try simp only [Z] at h2)
   have hne : ¬ g y = y := h2
   refine fV (aB (bJ O (gU O (bZ (aH (aX (aB (aQ (fQ O O (by omega)) (bJ O (bZ ?_))))))))))
   refine dX ((k + 1, g y)) ?_ ?_ ?_ ?_
   ·exact uh
   ·exact uh
   ·(try dsimp only)
    first | done | exact ⟨⟨by omega, hgy, by rw [he, WS (by omega) hne]; rfl⟩, H2⟩
   ·(try dsimp only); omega
 ·(try simp only [Z] at h1)
  refine dR (aO (aO (bG (aX (bM O (fA O (dI results90 O ?_)))))))
  exact ⟨by rw [he]; first | rw [Nw heq] | (rw [show n.toNat - k = 0 from by omega]; rfl), HL⟩
end
structure MP where
  ps : Nat
  pb : Nat
  pw : Nat
  pm : Nat
def UJ (p : MP) : Value := .func (.func 89) #[] #[.pointer (some ⟨p.pm, 0, none⟩), .pointer (some ⟨p.ps, 0, none⟩), .pointer (some ⟨p.pb, 0, none⟩), .pointer (some ⟨p.pw, 0, none⟩)]
def qG (p : MP) (sv : Value) (b t : Bool) (mv : Value) : HP := eP p.pm (.cells #[mv] 66 (0, 0)) • eP p.pw (.cells #[.bool t] 4 (0, 0)) • eP p.pb (.cells #[.bool b] 4 (0, 0)) • eP p.ps (.cells #[sv] 141 (0, 0))
section
variable {w0 w : World} {F : HP} {v sv mv : Value} {l : List Int} {x n : Int} {b t : Bool} {p : MP} {ps pl pb pw pm : Nat} {g : List Int → Int → Bool → Int} {I : List Int → Int → Prop} {m : List Int → Int → Bool}
theorem Xc (H : V w0 w (eP ps (.cells #[sv] 141 (0, 0)) • eP pl (.cells #[v] 22 (0, 0)) • eP pb (.cells #[.bool b] 4 (0, 0)) • F)) (hf : NK w0 sv g I) (hr : jh w0 F .i32 v l) (hl : l.length ≤ 4611686018427387904) (hx : I l x) :
    iQ prog 91 #[.int .i64 x, .pointer (some ⟨ps, 0, none⟩), .pointer (some ⟨pl, 0, none⟩), .pointer (some ⟨pb, 0, none⟩)] w fun u w' => (u = .int .i64 (g l x b) ∧ I l (g l x b)) ∧ V w0 w' (eP ps (.cells #[sv] 141 (0, 0)) • eP pl (.cells #[v] 22 (0, 0)) • eP pb (.cells #[.bool b] 4 (0, 0)) • F) := by
  refine ZY func91 ntmps91 ?_
  dsimp only [zZ, Nat.reduceAdd]
  refine ku O (iy (fC underlying141 O (H).get.2 O (fC ah O (H.f2).get.2 O (bJ O (fC cZ O (H.f3).get.2 O (kF (qN O O (hf.2 _ _ _ l _ _ H (fun W HW => hr _ (HW.right.right.right)) hl hx)) ?_))))))
  rintro _ w1 ⟨⟨rfl, hgx⟩, H1⟩
  refine fA O (dI results91 O ?_)
  exact ⟨⟨O, hgx⟩, H1⟩
theorem CV (H : V w0 w (qG p sv b t mv • F)) (hf : NK w0 sv g I) (hm : Yo w0 mv m) (hI : ∀ y, m l y = true → inL l y → I l y) (hr : jh w0 F .i32 v l) (hl : l.length ≤ 4611686018427387904) (hx : inL l x) (hn : n ≤ 9223372036854775807) :
  wS prog (UJ p) [v, .int .i64 x, .int .i64 n] w fun u w' => u = Zt (if m l x = true then (CP (fun y => g l y b) n.toNat x, t, true) else (0, false, false)) ∧ V w0 w' (qG p sv b t mv • F) := by
 obtain ⟨ps, pb, pw, pm⟩ := p
 refine ⟨_, [], _, _, _, O, func89, O, O, ?_⟩
 have H0 : V w0 w (eP pm (.cells #[mv] 66 (0, 0)) • eP pw (.cells #[.bool t] 4 (0, 0)) • eP pb (.cells #[.bool b] 4 (0, 0)) • eP ps (.cells #[sv] 141 (0, 0)) • F) := H.of_eq (by unfold qG; simp only [dH])
 have hback : ∀ {W : World}, V w0 W (eP pm (.cells #[mv] 66 (0, 0)) • eP pw (.cells #[.bool t] 4 (0, 0)) • eP pb (.cells #[.bool b] 4 (0, 0)) • eP ps (.cells #[sv] 141 (0, 0)) • F) → V w0 W (qG ⟨ps, pb, pw, pm⟩ sv b t mv • F) := fun h => h.of_eq (by unfold qG; simp only [dH])
 simp only [List.nil_append, List.cons_append]
 refine ZY func89 ntmps89 ?_
 dsimp only [zZ, Nat.reduceAdd]
 refine iy (kF (jF (l := [_]) H0 O (by first | rfl | exact E5 (by first | rfl | exact Rd.one (hr _ (H0.right.right.right.right))))) ?_)
 rintro _ w1 ⟨b1, rfl, H1⟩
 refine gU O (gU O (uf O (iy (fC underlying66 O (H1.f2).get.2 O (fC ah O (H1).get.2 O (bJ O (kF (qN O O (hm.2 _ _ _ l _ H1 (fun W HW => hr _ (HW.right.right.right.right.right)))) ?_)))))))
 rintro _ w2 ⟨rfl, H2⟩
 refine aQ (kG O) (jr O (fun h1 => ?_) (fun h1 => ?_))
 ·(try simp only [Z] at h1)
  have hno : ¬ m l x = true := by have h9 := h1; simpa using h9
  refine iy (gU O (gU O (fA O (aA ?_))))
  refine iP (.inl O) results89 O O O ?_
  exact ⟨by rw [if_neg hno]; rfl, hback H2.right.f4.f4.f4.f4⟩
 ·(try simp only [Z] at h1)
  have hyes : m l x = true := by have h9 := h1; simpa using h9
  refine fV (aI ?_)
  have FP := H2.drew
  have jL := V.kp (FP.f5.f5.f5.f5.f5)
  refine uN [4] jL O (gX 0 O jL O (gX 1 O jL O (iI 2 O jL (fun _ => Ad O O) (jf 4 O jL (fun W hW => jv cZ O ((Kp.h hW).f3).get.2 O) (mQ 3 O (wR O func90 (Xb (g := fun y => g l y b) (I := I l) FP (fun W y HW hy => ⟨_, [], _, _, _, O, func91, O, O, (Xc (F := eP pm (.cells #[mv] 66 (0, 0)) • eP pw (.cells #[.bool t] 4 (0, 0)) • F) (HW.of_eq (by ac_rfl)) hf (fun W HW => hr W HW.right.right) hl hy).mono fun u W2 h => ⟨h.1, h.2.of_eq (by ac_rfl)⟩⟩) (hI x hyes hx) hn)) ?_)))))
  rintro _ w3 ⟨rfl, H3⟩
  have Bc := V.kp (H3.f5.f5.f5.f5.f5)
  refine fD Bc (fun W hW => (Kp.h hW).f5.f5.f5.f5.f5) ?_
  refine iI 5 O Bc (fun _ => dB O) (iI 6 O Bc (fun _ => dB O) (iI 7 O Bc (fun _ => dB O) (pq (aX (lQ ?_)))))
  refine iP (.inl O) results89 O O O ?_
  exact ⟨by rw [if_pos hyes]; rfl, hback H3.right.f4.f4.f4.f4⟩
end
end Go.Proofs.YtpdeedplgmbopaaGreatDoor
end
