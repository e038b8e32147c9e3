import Derived.Test.YtgndbccogcofjaaGreatDoorZ2
import Derived.Test.YtgndbccogcofjaaGreatDoorZ12
import Derived.Test.YtgndbccogcofjaaGreatDoorZ7
import Derived.Lib.OthersKept
import Derived.Lib.Bytealg
import Derived.Conc.AtomicLaws2
import Derived.Test.YtgndbccogcofjaaGreatDoorZ10
set_option linter.unusedSimpArgs false
set_option linter.unusedVariables false
/- Texts of mine, joined, their names in short: EdA Atom Build EdB. -/
section
namespace Go.Proofs.YtgndbccogcofjaaGreatDoor
open Go.RowKit
open _root_.Go.Proofs.Tryz
def J3 (D : List Int) (P : Int → Nat) (k : Int) : Option Addr := if k ∈ D then some ⟨P k, 0, none⟩ else none
theorem Q7 (D : List Int) (P : Int → Nat) (k : Int) : (IJ D P k).getD (.pointer none) = .pointer (J3 D P k) := by unfold IJ J3; split <;> rfl
theorem Pe {D : List Int} {P : Int → Nat} {k : Int} (h : k ∈ D) : J3 D P k = some ⟨P k, 0, none⟩ := if_pos h
theorem Nl {D : List Int} {P : Int → Nat} {k : Int} (h : (J3 D P k).isNone = false) : k ∈ D := by
  unfold J3 at h
  split at h
  · assumption
  · cases h
theorem Np {D : List Int} {P : Int → Nat} {k : Int} (h : (J3 D P k).isNone = true) : k ∉ D := by
  unfold J3 at h
  split at h
  · cases h
  · assumption
theorem yO {s : bg} (h : ¬ s.sU = 0) : s.dP = false ∧ s.sU = 1 := by
  unfold bg.sU at *
  cases hi : s.dP <;> simp_all
theorem vV {s : bg} (h : s.sU = 0) : s.dP = true := by
  unfold bg.sU at h
  cases hi : s.dP <;> simp_all
theorem aB.YH {w0 w : World} {A B C F : HP} (H : aB w0 w (A • B • C • F)) : aB w0 w (A • (B • C) • F) := H.of_eq (by rw [bT])
section
variable {w0 w : World} {F : HP} {e p : Nat} {s : bg}
theorem kL (H : aB w0 w (dw e s • F)) : fO prog 32 #[.pointer (some ⟨e, 0, none⟩)] w fun v w' => v = .bool false ∧ w = w' := by
 refine gB func32 ntmps32 ?_
 dsimp only [bf, Nat.reduceAdd]
 refine ay (ah (aV rfl (aA (aj (ay ?_)))))
 obtain ⟨qG, qH, qI, qJ, qK, qL, qM, qN, oU, mZ, ng, ni, ny, nC, nD, nG, nH, nI, nJ, nK, dF, bG, gK, dH⟩ := (H).Bf
 refine ah (aN rfl (aX (fA underlying26 rfl rfl) (fK rfl (fun h1 => ?_) (fun h1 => ?_))))
 ·(try simp only [aH] at h1)
  try (exfalso; first | contradiction | omega)
  all_goals
   refine bD (bD (bD (bD (bD (fG rfl rfl (aV rfl (aA (aj (aJ (aI (.inl rfl) results32 rfl ?_))))))))))
   exact ⟨rfl, rfl⟩
 ·(try simp only [aH] at h1)
  try (exfalso; first | contradiction | omega)
  all_goals
   refine aZ (aN rfl (aZ (bP rfl (aZ (bF 11 underlying37 rfl sizeOf33 rfl (aZ (dV underlying33 rfl (dH).get.2 rfl (aZ (aX (fA underlying33 rfl rfl) (eG rfl rfl (aV rfl (aA (aj (aJ (aI (.inl rfl) results32 rfl ?_)))))))))))))))
   exact ⟨rfl, rfl⟩
theorem jE (H : aB w0 w (dw e s • F)) : fO prog 94 #[.pointer (some ⟨e, 0, none⟩)] w fun v w' => v = .int .i64 s.sU ∧ w = w' := by
 unfold bg.sU
 refine gB func94 ntmps94 ?_
 dsimp only [bf, Nat.reduceAdd]
 refine ay (ah (aV rfl (aA (aj (ay (bC (ay (ah (aN rfl (bZ rfl func32 (kL H) ?_))))))))))
 rintro _ _ ⟨rfl, rfl⟩
 refine aV rfl (aA (aj (nN (ay ?_))))
 obtain ⟨qG, qH, qI, qJ, qK, qL, qM, qN, oU, mZ, ng, ni, ny, nC, nD, nG, nH, nI, nJ, nK, dF, bG, gK, dH⟩ := (H).Bf
 refine ah (aN rfl (bP rfl (bF 16 underlying37 rfl sizeOf4 rfl (dV underlying4 rfl (dH).get.2 rfl (aX (kF rfl) (aV rfl (aA (aj (aO rfl (fun h1 => ?_) (fun h1 => ?_))))))))))
 ·(try simp only [aH] at h1)
  try (exfalso; first | contradiction | omega)
  all_goals
   refine ay (ah (aV rfl (aA (aj (aJ (aW (aK (aI (.inl rfl) results94 rfl ?_))))))))
   exact ⟨by simp [*], rfl⟩
 ·(try simp only [aH] at h1)
  try (exfalso; first | contradiction | omega)
  all_goals
   refine aP (aQ (aj (ay (ah (aV rfl (aA (aj (aJ (aI (.inl rfl) results94 rfl ?_)))))))))
   exact ⟨by simp [*], rfl⟩
theorem vW {x0 x1 x4 x5 x6 x7 x8 x9 x10 x11 x12 Xo x14 x15 x16 x17 x18 x19 x20 x21 V8 x23 x24 x25 V9 x27 x28 x29 x30 x31 x32 Wh : Value} {pw pt pm : Nat} {k : Int} {U : Int → List (List dX)} (H : aB w0 w (dB e (.cells (x0 :: x1 :: .pointer (some ⟨pw, 0, none⟩) :: .map (some pm) :: x4 :: x5 :: x6 :: x7 :: x8 :: x9 :: x10 :: x11 :: x12 :: Xo :: x14 :: x15 :: x16 :: x17 :: x18 :: x19 :: x20 :: x21 :: V8 :: x23 :: x24 :: x25 :: V9 :: x27 :: x28 :: x29 :: x30 :: x31 :: x32 :: Wh :: []).toArray 37 (0, 0)) • dB pw (.cells #[.int .i64 k, .map (some pt)] 85 (0, 0)) • sW pm U • F)) : fO prog 160 #[.pointer (some ⟨e, 0, none⟩)] w fun v w' => ∃ p, v = .pointer (some ⟨p, 0, none⟩) ∧
  aB w0 w' (dR p (U k) [] 0 • EU pm U k p • dB e (.cells (x0 :: x1 :: .pointer (some ⟨pw, 0, none⟩) :: .map (some pm) :: x4 :: x5 :: x6 :: x7 :: x8 :: x9 :: x10 :: x11 :: x12 :: Xo :: x14 :: x15 :: x16 :: x17 :: x18 :: x19 :: x20 :: x21 :: V8 :: x23 :: x24 :: x25 :: V9 :: x27 :: x28 :: x29 :: x30 :: x31 :: x32 :: Wh :: []).toArray 37 (0, 0)) • dB pw (.cells #[.int .i64 k, .map (some pt)] 85 (0, 0)) • F) := by
 refine gB func160 ntmps160 ?_
 dsimp only [bf, Nat.reduceAdd]
 refine ay (ah (aV rfl (aA (aj (ay ?_)))))
 obtain ⟨D, P, hD1, hD2, HU⟩ := (H.f3).V6
 have J4 := HU.drew
 have jy := aB.kp (J4.f4.f4.f4.f4)
 refine yZ [4, 9, 12, 13] jy rfl (iF 0 rfl jy rfl (jQ 1 rfl jy rfl (gV 2 rfl jy 0 underlying37 rfl sizeOf32 rfl (gV 3 rfl jy 3 underlying32 rfl sizeOf30 rfl (jk 4 rfl jy (fun W hW => jP underlying30 rfl ((Kp.h hW).f3).get.2 rfl) (iF 5 rfl jy rfl (jQ 6 rfl jy rfl (gV 7 rfl jy 0 underlying37 rfl sizeOf32 rfl (gV 8 rfl jy 2 underlying32 rfl sizeOf29 rfl (jk 9 rfl jy (fun W hW => jP underlying29 rfl ((Kp.h hW).f3).get.2 rfl) (jQ 10 rfl jy rfl (gV 11 rfl jy 0 underlying85 rfl sizeOf3 rfl (jk 12 rfl jy (fun W hW => jP underlying3 rfl ((Kp.h hW).f4).get.2 rfl) (jk 13 rfl jy (fun W hW => Xx (BR ((Kp.h hW)) underlying30 underlying3 zeroValue117 rfl rfl) (Q7 D P k)) (jg 14 rfl jy (fun _ => gG rfl) (pO (aj (ay (ay (ah (aN rfl (aX (fA underlying117 rfl rfl) (aA (aj (aO rfl (fun h1 => ?_) (fun h1 => ?_))))))))))))))))))))))))))
 ·(try simp only [aH] at h1)
  try (exfalso; first | contradiction | omega)
  all_goals
   have hnm := Np h1
   refine ay (ah (bZ rfl func215 (F9 J4) ?_))
   rintro _ w1 ⟨p1, rfl, H1⟩
   refine aV rfl (aA (aj ?_))
   have Wi := H1.drew
   have qA := aB.kp (Wi.f5.f5.f5.f5.f5)
   refine yZ [4, 9, 12] qA rfl (iF 0 rfl qA rfl (jQ 1 rfl qA rfl (gV 2 rfl qA 0 underlying37 rfl sizeOf32 rfl (gV 3 rfl qA 3 underlying32 rfl sizeOf30 rfl (jk 4 rfl qA (fun W hW => jP underlying30 rfl ((Kp.h hW).f4).get.2 rfl) (iF 5 rfl qA rfl (jQ 6 rfl qA rfl (gV 7 rfl qA 0 underlying37 rfl sizeOf32 rfl (gV 8 rfl qA 2 underlying32 rfl sizeOf29 rfl (jk 9 rfl qA (fun W hW => jP underlying29 rfl ((Kp.h hW).f4).get.2 rfl) (jQ 10 rfl qA rfl (gV 11 rfl qA 0 underlying85 rfl sizeOf3 rfl (jk 12 rfl qA (fun W hW => jP underlying3 rfl ((Kp.h hW).f5).get.2 rfl) (iF 13 rfl qA rfl ?_))))))))))))))
   refine fU 14 rfl (by kernel_rfl) (qU Wi.f2 underlying30 underlying3 rfl rfl rfl) ?_
   rintro _ w2 H2
   have TS := aB.kp (H2.f5.f5.f5.f5.f5)
   refine fQ TS (by kernel_rfl) ?_
   refine pO (aj (ay (ah (aN rfl (aV rfl (aA (aj (aJ (aI (.inl rfl) results160 rfl ?_)))))))))
   have hu1 : Ah (wS P k p1) U (D ++ [k]) = (Ah P U D • dR p1 [] [] 0) := by
    rw [Dt, fD, hD2 _ hnm, wJ (P' := P) (U' := U) fun x hx => ⟨sS _ _ (by rintro rfl; exact hnm hx), rfl⟩]
   have HM := aB.YH H2.f5.f5.f4.f5.f5
   rw [← hu1, ← IL hnm] at HM
   have HZ := aB.SB (k := k) (Du hD1 hnm) (fun k hk => hD2 k fun hm => hk (by simp [hm])) (by simp) HM
   rw [fD] at HZ
   exact ⟨_, rfl, HZ⟩
 ·(try simp only [aH] at h1)
  try (exfalso; first | contradiction | omega)
  all_goals
   have hmem := Nl h1
   rw [Pe hmem]
   refine aP (aj (ay (ah (aN rfl (aV rfl (aA (aj (aJ (aI (.inl rfl) results160 rfl ?_)))))))))
   exact ⟨_, rfl, aB.SB hD1 hD2 hmem J4.f4.f4.f4.f4⟩
theorem aB.Gs {b p : Nat} {k : Int} {U : Int → List (List dX)} (H : aB w0 w (EU b U k p • dR p (U k) [] 0 • F)) : aB w0 w (sW b U • F) := by
  have := H.sZ
  rwa [QX] at this
end
end Go.Proofs.YtgndbccogcofjaaGreatDoor
end
section
namespace Go.Proofs.YtgndbccogcofjaaGreatDoor
open Go.RowKit Go.Lib
section
variable {P : Program} {L : List (Nat × Value)} {w0 w : World} {F : HP} {ty : TypeId} {b : Nat} {v d : Int} {t : TypeId}
theorem Pg {T : Value → World → Prop} {f : FuncId} {args : List Operand} {ts : Array TypeId} {vs : List Value} {fn : Func} {e : Array Value → Sem Value} {v : Value} {w' : World} (ha : xZ L args = some vs)
    (hf : P.funcs[f]? = some fn) (hname : (fn.name == "runtime.NumGoroutine") = false) (hb : fn.body.isNone = true) (hn : Extern.findNext fn = none) (he : Extern.find fn = some e) (hr : (e vs.toArray).run P w = .ok v w') (ht : T v w') :
    pX P L (.call ⟨.value (.func f), args.toArray, ts⟩) ty w T := nM (v := v) (w' := w') (fun ρ hρ _ _ _ _ => by
  have hg : ρ (.func f) = .func (.func f) #[] #[] := hρ _ _ rfl
  have hc := run_callFunc_extern hf hname hb hn he vs.toArray w
  rw [hr] at hc
  simp [execOp, resolve, invoke, UG hρ _ _ ha, hg, Deferred.ofValue]
  exact hc) ht
theorem J5 (hc : w.cell? ⟨b, 0, none⟩ = some (.int .i64 v)) : (Extern.Atomic.loadT (.int .i64) #[.pointer (some ⟨b, 0, none⟩)]).run P w = .ok (.int .i64 v) w := by
  change Sem.run P (do Extern.Atomic.read (.int .i64) (← asAddr (.pointer (some ⟨b, 0, none⟩)))) w = _
  simp [Extern.Atomic.read, asAddr, hc, Result.andThen]
theorem Q8 {f : FuncId} {args : List Operand} {ts : Array TypeId} {fn : Func} (H : aB w0 w (dB b (.cells #[.int .i64 v] t (0, 0)) • F)) (ha : xZ L args = some [.pointer (some ⟨b, 0, none⟩), .int .i64 d])
    (hf : P.funcs[f]? = some fn) (hname : (fn.name == "runtime.NumGoroutine") = false) (hb : fn.body.isNone = true) (hn : Extern.findNext fn = none) (he : Extern.find fn = some (Extern.Atomic.update (Op.intArith .add) .i64 true)) :
    pX P L (.call ⟨.value (.func f), args.toArray, ts⟩) ty w fun u w' => u = .int .i64 (IntKind.i64.wrap (v + d)) ∧ aB w0 w' (dB b (.cells #[.int .i64 (IntKind.i64.wrap (v + d))] t (0, 0)) • F) :=
  Pg ha hf hname hb hn he (Conc.run_add_entry (fV H.get.2 rfl) (vF H.get.2)) ⟨rfl, H.setCell (i := 0) _⟩
theorem Ph {f : FuncId} {args : List Operand} {ts : Array TypeId} {fn : Func} (H : aB w0 w (dB b (.cells #[.int .i64 v] t (0, 0)) • F)) (ha : xZ L args = some [.pointer (some ⟨b, 0, none⟩)])
    (hf : P.funcs[f]? = some fn) (hname : (fn.name == "runtime.NumGoroutine") = false) (hb : fn.body.isNone = true) (hn : Extern.findNext fn = none) (he : Extern.find fn = some (Extern.Atomic.loadT (.int .i64))) :
    pX P L (.call ⟨.value (.func f), args.toArray, ts⟩) ty w fun u w' => u = .int .i64 v ∧ w = w' :=
  Pg ha hf hname hb hn he (J5 (fV H.get.2 rfl)) ⟨rfl, rfl⟩
theorem yP (H : aB w0 w (dB b (.cells #[.int .i64 v] t (0, 0)) • F)) : fO Tryz.prog 95 #[.pointer (some ⟨b, 0, none⟩), .int .i64 d] w fun u w' => u = .int .i64 (IntKind.i64.wrap (v + d)) ∧ aB w0 w' (dB b (.cells #[.int .i64 (IntKind.i64.wrap (v + d))] t (0, 0)) • F) := by
 refine gB Tryz.func95 Tryz.ntmps95 ?_
 dsimp only [bf, Nat.reduceAdd]
 refine ay (ah (aV rfl (aA (aj (ay (ah (aN rfl (bP rfl (bF 0 Tryz.underlying106 rfl Tryz.sizeOf2 rfl (aN rfl (jh (Q8 H rfl Tryz.func159 rfl rfl (by kernel_rfl) (by kernel_rfl)) ?_)))))))))))
 rintro _ w1 ⟨rfl, H1⟩
 refine aV rfl (aA (aj (aJ (aI (.inl rfl) Tryz.results95 rfl ?_))))
 exact ⟨rfl, H1⟩
theorem Ei (H : aB w0 w (dB b (.cells #[.int .i64 v] t (0, 0)) • F)) : fO Tryz.prog 36 #[.pointer (some ⟨b, 0, none⟩)] w fun u w' => u = .int .i64 v ∧ w = w' := by
 refine gB Tryz.func36 Tryz.ntmps36 ?_
 dsimp only [bf, Nat.reduceAdd]
 refine ay (ah (aV rfl (aA (aj (ay (ah (aN rfl (bP rfl (bF 0 Tryz.underlying106 rfl Tryz.sizeOf2 rfl (jh (Ph H rfl Tryz.func106 rfl rfl (by kernel_rfl) (by kernel_rfl)) ?_))))))))))
 rintro _ _ ⟨rfl, rfl⟩
 refine aV rfl (aA (aj (aJ (aI (.inl rfl) Tryz.results36 rfl ?_))))
 exact ⟨rfl, rfl⟩
end
end Go.Proofs.YtgndbccogcofjaaGreatDoor
end
section
namespace Go.Proofs.YtgndbccogcofjaaGreatDoor
open Go.RowKit
inductive Cells : Nat → Nat → List (Nat × Nat) → List Value → List (Nat × Value) → List Value → Prop
  | nil {i o : Nat} : Cells i o [] [] [] []
  | one {i o : Nat} {pl : List (Nat × Nat)} {z : List Value} {vs : List (Nat × Value)} {cs : List Value} {v zv : Value} (h : v.oneCell' = true) (k : Cells (i + 1) (o + 1) pl z vs cs) : Cells i o ((o, 1) :: pl) (zv :: z) ((i, v) :: vs) (v :: cs)
  | agg {i o m : Nat} {pl : List (Nat × Nat)} {z : List Value} {vs : List (Nat × Value)} {cs us zs : List Value} (hm : us.length = m) (hz : zs.length = m) (k : Cells (i + 1) (o + m) pl z vs cs) : Cells i o ((o, m) :: pl) (zs ++ z) ((i, .agg us.toArray) :: vs) (us ++ cs)
  | zero {i o m : Nat} {pl : List (Nat × Nat)} {z : List Value} {vs : List (Nat × Value)} {cs zs : List Value} (hz : zs.length = m) (k : Cells (i + 1) (o + m) pl z vs cs) : Cells i o ((o, m) :: pl) (zs ++ z) vs (zs ++ cs)
theorem J6 {v : Value} (h : v.oneCell' = true) : v.cells = #[v] := by cases v <;> simp_all [Value.cells, Value.oneCell']
theorem EX {pl : Array (Nat × Nat)} {i o m : Nat} {v : Value} {vs : List (Nat × Value)} {pre zs us z : List Value} {R : Option (Array Value)} (hp : pl[i]? = some (o, m)) (ho : pre.length = o) (hv : v.cells = us.toArray) (hm : us.length = m) (hz : zs.length = m)
    (h : Instr.fill (fun i => pl[i]?) (pre ++ us ++ z).toArray vs = R) : Instr.fill (fun i => pl[i]?) (pre ++ (zs ++ z)).toArray ((i, v) :: vs) = R := by
  simp only [Instr.fill]
  rw [hp]
  dsimp only
  rw [hv, if_neg (by simp; omega)]
  have hfr := OA us o 0 (pre ++ (zs ++ z)).toArray (by simp; omega)
  simp only [Nat.add_zero] at hfr
  rw [← Array.foldl_toList, Array.toList_zipIdx]
  simp only [List.toList_toArray] at hfr ⊢
  rw [show (us.zipIdx.foldl (fun cs (x : Value × Nat) => cs.setIfInBounds (o + x.2) x.1) (pre ++ (zs ++ z)).toArray) = _ from hfr]
  rw [← h]
  congr 2
  subst ho
  rw [List.take_left, ← List.append_assoc pre zs z, show pre.length + us.length = (pre ++ zs).length from by simp; omega, List.drop_left]
theorem J7 {i o : Nat} {pl : List (Nat × Nat)} {z cs : List Value} {vs : List (Nat × Value)} (h : Cells i o pl z vs cs) : ∀ {pp : List (Nat × Nat)} {pre : List Value}, pp.length = i → pre.length = o →
    Instr.fill (fun j => (pp ++ pl).toArray[j]?) (pre ++ z).toArray vs = some (pre ++ cs).toArray := by
  induction h with
  | nil => intro pp pre _ _; rfl
  | @one i o pl z vs cs v zv h k ih =>
    intro pp pre h1 h2
    refine EX (zs := [zv]) (us := [v]) (o := o) (m := 1) (by simp [← h1]) h2 (J6 h) rfl rfl ?_
    have := ih (pp := pp ++ [(o, 1)]) (pre := pre ++ [v]) (by simp; omega) (by simp; omega)
    simpa using this
  | @agg i o m pl z vs cs us zs hm hz k ih =>
    intro pp pre h1 h2
    refine EX (zs := zs) (us := us) (o := o) (m := m) (by simp [← h1]) h2 rfl hm hz ?_
    have := ih (pp := pp ++ [(o, m)]) (pre := pre ++ us) (by simp; omega) (by simp; omega)
    simpa using this
  | @zero i o m pl z vs cs zs hz k ih =>
    intro pp pre h1 h2
    have := ih (pp := pp ++ [(o, m)]) (pre := pre ++ zs) (by simp; omega) (by simp; omega)
    simpa using this
section
variable {P : Program} {L : List (Nat × Value)} {w : World} {ty : TypeId}
theorem fF {t : TypeId} {fs : Array Field} {z : Value} {zl : List Value} {pl : List (Nat × Nat)} {ps : List (Nat × Operand)} {vs : List (Nat × Value)} {cs : List Value} (cells : List Value) (ht : P.underlying t = some (.struct fs)) (hz : ∀ w, (zeroValue t).run P w = .ok z w) (hzl : z.cells = zl.toArray)
    (hpl : ∀ w, (fs.mapM fun f => do pure (f.offset, ← sizeOf f.type) : Sem (Array (Nat × Nat))).run P w = .ok pl.toArray w) (hp : Qb L ps = some vs) (hC : Cells 0 0 pl zl vs cs) (hcs : cs = cells) : Val P L (.build t ps.toArray) ty w (.agg cells.toArray) w := by
  subst hcs
  exact eF cs.toArray ht hz hpl hp (by rw [hzl]; exact J7 hC (pp := []) (pre := []) rfl rfl)
end
end Go.Proofs.YtgndbccogcofjaaGreatDoor
end
section
namespace Go.Proofs.YtgndbccogcofjaaGreatDoor
open Go.RowKit
open _root_.Go.Proofs.Tryz
section
variable {w0 w : World} {F : HP} {e p h pr : Nat} {s : bg} {hl : List oQ} {base most m : Int} {v : Value} {l : List Int}
theorem aB.oV {b : Nat} (H : aB w0 w (eP oM b (fun _ => none) • F)) : aB w0 w (sW b (fun _ => []) • F) :=
  aB.Bd (D := []) (P := fun _ => 0) List.nodup_nil (fun _ _ => rfl) (by rw [Lp]; exact H.of_eq (by show _ = (_ • emp • _); rw [YtgndbccogcofjaaGreatDoor.jm]))
set_option maxHeartbeats 1000000 in
theorem xw {x0 x2 x3 x5 x6 x7 x8 x9 x10 x11 x12 Xo x14 x15 x16 x17 x18 x19 x20 x21 V8 x23 x24 x25 V9 x27 x28 x29 x30 x31 x32 Wh : Value} {E : List (List Int)} {a : Nat} (H : aB w0 w (dB e (.cells (x0 :: .pointer (some ⟨pr, 0, none⟩) :: x2 :: x3 :: .int .i64 m :: x5 :: x6 :: x7 :: x8 :: x9 :: x10 :: x11 :: x12 :: Xo :: x14 :: x15 :: x16 :: x17 :: x18 :: x19 :: x20 :: x21 :: V8 :: x23 :: x24 :: x25 :: V9 :: x27 :: x28 :: x29 :: x30 :: x31 :: x32 :: Wh :: []).toArray 37 (0, 0)) • fC h hl base most • F)) (hr : gW w0 F .i32 v l) (hshort : l.length ≤ 1024) :
  fO prog 110 #[.pointer (some ⟨e, 0, none⟩), .pointer (some ⟨h, 0, none⟩), v] w fun _ w' => ∃ pb pw pt pm ph, aB w0 w' (dB e (.cells (.pointer (some ⟨pb, 0, none⟩) :: .pointer (some ⟨pr, 0, none⟩) :: .pointer (some ⟨pw, 0, none⟩) :: .map (some pm) :: .int .i64 m :: .bool false :: .int .i64 0 :: .int .i64 0 :: .int .i64 0 :: .int .i64 0 :: .bool false :: .pointer (some ⟨ph, 0, none⟩) :: x12 :: .bool false :: .bool false :: .int .i64 (-1) :: x16 :: x17 :: x18 :: x19 :: x20 :: x21 :: V8 :: x23 :: x24 :: x25 :: V9 :: x27 :: x28 :: x29 :: x30 :: x31 :: x32 :: Wh :: []).toArray 37 (0, 0)) •
   dL pb l l.length (-1) • dB pw (.cells #[.int .i64 hl.length, .map (some pt)] 85 (0, 0)) • eP oM pt (fun _ => none) • sW pm (fun _ => []) • fC ph hl base most • fC h hl base most • F) := by
 refine gB func110 ntmps110 ?_
 dsimp only [bf, Nat.reduceAdd]
 refine ay (ah (aN rfl (bZ rfl func184 (Ic H (fun W HW => hr _ (HW.right.right)) hshort) ?_)))
 rintro _ w1 ⟨p1, rfl, H1⟩
 refine aN rfl (AZ rfl rfl (AZ rfl rfl (aV rfl (aV rfl (aA (aj (ay (ah (aN rfl (aN rfl (bZ rfl func45 (mQ H1.f3) ?_)))))))))))
 rintro _ w2 ⟨q2, rfl, H2⟩
 refine bP rfl (bF 11 underlying37 rfl sizeOf33 rfl (aG (aS 11 (l' := [_, _, _, _, _, _, _, _, _, _, _, _, _, _, _, _, _, _, _, _, _, _, _, _, _, _, _, _, _, _, _, _, _, _]) H2.f4 sizeOf33 rfl rfl (by first | rfl | assumption) rfl rfl) ?_))
 rintro _ w3 H3
 refine aA (aj (ay ?_))
 have Q9 := H3.drew
 have qX := aB.kp (Q9.f3.right.f3.f3.f3)
 refine yZ [6, 17] qX rfl (iF 0 rfl qX rfl (iF 1 rfl qX rfl (iF 2 rfl qX rfl (jQ 3 rfl qX rfl (gV 4 rfl qX 0 underlying37 rfl sizeOf32 rfl (gV 5 rfl qX 1 underlying32 rfl sizeOf28 rfl (jk 6 rfl qX (fun W hW => jP underlying28 rfl ((Kp.h hW)).get.2 rfl) (iF 7 rfl qX rfl (iF 13 rfl qX rfl (jQ 14 rfl qX rfl (gV 15 rfl qX 0 underlying37 rfl sizeOf32 rfl (gV 16 rfl qX 4 underlying32 rfl sizeOf3 rfl (jk 17 rfl qX (fun W hW => jP underlying3 rfl ((Kp.h hW)).get.2 rfl) ?_)))))))))))))
 refine NZ (i := 8) (j := 9) (k := 12) (by kernel_rfl) ?_ ?_ ?_
 ·skip
  refine kQ 8 rfl (by kernel_rfl) (xB (zf rfl func102 rfl rfl) (mP Q9.f3)) (oW rfl) ?_
  rintro _ w4 ⟨rfl, H4⟩
  have wR := aB.kp (H4.f4.f4.f4.f4)
  refine dQ wR (fun W hW => (Kp.h hW).right.f3.f3.f3) ?_
  refine BH (i := 9) (j := 12) (by kernel_rfl) ?_ ?_
  ·skip
   refine kQ 9 rfl (by kernel_rfl) (ig (wQ .i64) H4) (oW rfl) ?_
   rintro _ w5 ⟨b5, rfl, H5⟩
   have JR := aB.kp (H5.f5.f5.f5.f5.f5)
   refine dQ JR (fun W hW => (Kp.h hW).right.f4.f4.f4.f4) ?_
   refine jg 10 rfl JR (fun _ => fF (zl := [.int .i64 0, .map none]) (pl := [(0, 1), (1, 1)]) [_, _] underlying85 zeroValue85 rfl (fun w => by kernel_rfl) rfl (.one (by first | rfl | assumption) (.one (by first | rfl | assumption) .nil)) rfl) ?_
   refine BH (i := 11) (j := 12) (by kernel_rfl) ?_ ?_
   ·skip
    refine kQ 11 rfl (by kernel_rfl) (iL (l := [_, _]) H5 rfl rfl) (oW rfl) ?_
    rintro _ w6 ⟨b6, rfl, H6⟩
    have IU := aB.kp (H6.f6.f6.f6.f6.f6.f6)
    refine dQ IU (fun W hW => (Kp.h hW).right.f5.f5.f5.f5.f5) ?_
    refine kE 12 rfl (ig (wQ .i64) H6) ?_
    rintro _ w7 ⟨b7, rfl, H7⟩
    have zy := aB.kp (H7.f7.f7.f7.f7.f7.f7.f7)
    refine dQ zy (fun W hW => (Kp.h hW).right.f6.f6.f6.f6.f6.f6) ?_
    refine jg 18 rfl zy (fun _ => fF (zl := [.pointer none, .pointer none, .pointer none, .map none, .int .i64 0, .bool false, .int .i64 0, .int .i64 0, .int .i64 0, .int .i64 0, .bool false]) (pl := [(0, 1), (1, 1), (2, 1), (3, 1), (4, 1), (5, 1), (6, 1), (7, 1), (8, 1), (9, 1), (10, 1)]) [_, _, _, _, _, _, _, _, _, _, _] underlying32 zeroValue32 rfl (fun w => by kernel_rfl) rfl (.one (by first | rfl | assumption) (.one (by first | rfl | assumption) (.one (by first | rfl | assumption) (.one (by first | rfl | assumption) (.one (by first | rfl | assumption) (.zero (zs := [.bool false]) rfl (.zero (zs := [.int .i64 0]) rfl (.zero (zs := [.int .i64 0]) rfl (.zero (zs := [.int .i64 0]) rfl (.zero (zs := [.int .i64 0]) rfl (.zero (zs := [.bool false]) rfl .nil))))))))))) rfl) ?_
    refine jQ 19 rfl zy rfl (gV 20 rfl zy 0 underlying37 rfl sizeOf32 rfl ?_)
    refine fU 21 rfl (by kernel_rfl) (cZ 0 (l' := [_, _, _, _, _, _, _, _, _, _, _, _, _, _, _, _, _, _, _, _, _, _, _, _, _, _, _, _, _, _, _, _, _, _]) (us := [_, _, _, _, _, _, _, _, _, _, _]) H7.f5 sizeOf32 rfl rfl rfl (aC (by first | rfl | assumption) (aC (by first | rfl | assumption) (aC (by first | rfl | assumption) (aC (by first | rfl | assumption) (aC (by first | rfl | assumption) (aC (by first | rfl | assumption) (aC (by first | rfl | assumption) (aC (by first | rfl | assumption) (aC (by first | rfl | assumption) (aC (by first | rfl | assumption) (aC (by first | rfl | assumption) bV))))))))))) rfl rfl) ?_
    rintro _ w8 H8
    have MZ := aB.kp (H8.f7.f7.f7.f7.f7.f7.f7)
    refine fQ MZ (by kernel_rfl) ?_
    refine pO (aj (ah (aN rfl (aN rfl (aN rfl (bP rfl (bF 13 underlying37 rfl sizeOf4 rfl (aG (aS 13 (l' := [_, _, _, _, _, _, _, _, _, _, _, _, _, _, _, _, _, _, _, _, _, _, _, _, _, _, _, _, _, _, _, _, _, _]) H8 sizeOf4 rfl rfl (by first | rfl | assumption) rfl rfl) ?_))))))))
    rintro _ w9 H9
    refine bP rfl (bF 14 underlying37 rfl sizeOf4 rfl (aG (aS 14 (l' := [_, _, _, _, _, _, _, _, _, _, _, _, _, _, _, _, _, _, _, _, _, _, _, _, _, _, _, _, _, _, _, _, _, _]) H9 sizeOf4 rfl rfl (by first | rfl | assumption) rfl rfl) ?_))
    rintro _ w10 nO
    refine bP rfl (bF 15 underlying37 rfl sizeOf3 rfl (aG (aS 15 (l' := [_, _, _, _, _, _, _, _, _, _, _, _, _, _, _, _, _, _, _, _, _, _, _, _, _, _, _, _, _, _, _, _, _, _]) nO sizeOf3 rfl rfl (by first | rfl | assumption) rfl rfl) ?_))
    rintro _ Hz vk
    refine aA (fZ (.inr rfl) results110 ?_)
    have J8 := vk.f2
    have J9 := J8.oV
    exact ⟨_, _, _, _, _, J9.f5.f6.f3.f6.f6.f7.f7⟩
   ·skip
    refine kQ 12 rfl (by kernel_rfl) (ig (wQ .i64) H5) (oW rfl) ?_
    rintro _ Jw ⟨b14, rfl, xE⟩
    have OI := aB.kp (xE.f6.f6.f6.f6.f6.f6)
    refine dQ OI (fun W hW => (Kp.h hW).right.f5.f5.f5.f5.f5) ?_
    refine kE 11 rfl (iL (l := [_, _]) xE rfl rfl) ?_
    rintro _ MO ⟨b15, rfl, uf⟩
    have xg := aB.kp (uf.f7.f7.f7.f7.f7.f7.f7)
    refine dQ xg (fun W hW => (Kp.h hW).right.f6.f6.f6.f6.f6.f6) ?_
    refine jg 18 rfl xg (fun _ => fF (zl := [.pointer none, .pointer none, .pointer none, .map none, .int .i64 0, .bool false, .int .i64 0, .int .i64 0, .int .i64 0, .int .i64 0, .bool false]) (pl := [(0, 1), (1, 1), (2, 1), (3, 1), (4, 1), (5, 1), (6, 1), (7, 1), (8, 1), (9, 1), (10, 1)]) [_, _, _, _, _, _, _, _, _, _, _] underlying32 zeroValue32 rfl (fun w => by kernel_rfl) rfl (.one (by first | rfl | assumption) (.one (by first | rfl | assumption) (.one (by first | rfl | assumption) (.one (by first | rfl | assumption) (.one (by first | rfl | assumption) (.zero (zs := [.bool false]) rfl (.zero (zs := [.int .i64 0]) rfl (.zero (zs := [.int .i64 0]) rfl (.zero (zs := [.int .i64 0]) rfl (.zero (zs := [.int .i64 0]) rfl (.zero (zs := [.bool false]) rfl .nil))))))))))) rfl) ?_
    refine jQ 19 rfl xg rfl (gV 20 rfl xg 0 underlying37 rfl sizeOf32 rfl ?_)
    refine fU 21 rfl (by kernel_rfl) (cZ 0 (l' := [_, _, _, _, _, _, _, _, _, _, _, _, _, _, _, _, _, _, _, _, _, _, _, _, _, _, _, _, _, _, _, _, _, _]) (us := [_, _, _, _, _, _, _, _, _, _, _]) uf.f5 sizeOf32 rfl rfl rfl (aC (by first | rfl | assumption) (aC (by first | rfl | assumption) (aC (by first | rfl | assumption) (aC (by first | rfl | assumption) (aC (by first | rfl | assumption) (aC (by first | rfl | assumption) (aC (by first | rfl | assumption) (aC (by first | rfl | assumption) (aC (by first | rfl | assumption) (aC (by first | rfl | assumption) (aC (by first | rfl | assumption) bV))))))))))) rfl rfl) ?_
    rintro _ w16 rZ
    have IC := aB.kp (rZ.f7.f7.f7.f7.f7.f7.f7)
    refine fQ IC (by kernel_rfl) ?_
    refine pO (aj (ah (aN rfl (aN rfl (aN rfl (bP rfl (bF 13 underlying37 rfl sizeOf4 rfl (aG (aS 13 (l' := [_, _, _, _, _, _, _, _, _, _, _, _, _, _, _, _, _, _, _, _, _, _, _, _, _, _, _, _, _, _, _, _, _, _]) rZ sizeOf4 rfl rfl (by first | rfl | assumption) rfl rfl) ?_))))))))
    rintro _ RX Ac
    refine bP rfl (bF 14 underlying37 rfl sizeOf4 rfl (aG (aS 14 (l' := [_, _, _, _, _, _, _, _, _, _, _, _, _, _, _, _, _, _, _, _, _, _, _, _, _, _, _, _, _, _, _, _, _, _]) Ac sizeOf4 rfl rfl (by first | rfl | assumption) rfl rfl) ?_))
    rintro _ Qc zY
    refine bP rfl (bF 15 underlying37 rfl sizeOf3 rfl (aG (aS 15 (l' := [_, _, _, _, _, _, _, _, _, _, _, _, _, _, _, _, _, _, _, _, _, _, _, _, _, _, _, _, _, _, _, _, _, _]) zY sizeOf3 rfl rfl (by first | rfl | assumption) rfl rfl) ?_))
    rintro _ Qe Au
    refine aA (fZ (.inr rfl) results110 ?_)
    have YI := Au.f3
    have YJ := YI.oV
    exact ⟨_, _, _, _, _, YJ.f5.f6.f3.f6.f6.f7.f7⟩
  ·skip
   refine kQ 12 rfl (by kernel_rfl) (ig (wQ .i64) H4) (oW rfl) ?_
   rintro _ UK ⟨b22, rfl, BQ⟩
   have Dq := aB.kp (BQ.f5.f5.f5.f5.f5)
   refine dQ Dq (fun W hW => (Kp.h hW).right.f4.f4.f4.f4) ?_
   refine kE 9 rfl (ig (wQ .i64) BQ) ?_
   rintro _ Qg ⟨b23, rfl, yc⟩
   have ET := aB.kp (yc.f6.f6.f6.f6.f6.f6)
   refine dQ ET (fun W hW => (Kp.h hW).right.f5.f5.f5.f5.f5) ?_
   refine jg 10 rfl ET (fun _ => fF (zl := [.int .i64 0, .map none]) (pl := [(0, 1), (1, 1)]) [_, _] underlying85 zeroValue85 rfl (fun w => by kernel_rfl) rfl (.one (by first | rfl | assumption) (.one (by first | rfl | assumption) .nil)) rfl) ?_
   refine kE 11 rfl (iL (l := [_, _]) yc rfl rfl) ?_
   rintro _ Vf ⟨b24, rfl, Ho⟩
   have Lr := aB.kp (Ho.f7.f7.f7.f7.f7.f7.f7)
   refine dQ Lr (fun W hW => (Kp.h hW).right.f6.f6.f6.f6.f6.f6) ?_
   refine jg 18 rfl Lr (fun _ => fF (zl := [.pointer none, .pointer none, .pointer none, .map none, .int .i64 0, .bool false, .int .i64 0, .int .i64 0, .int .i64 0, .int .i64 0, .bool false]) (pl := [(0, 1), (1, 1), (2, 1), (3, 1), (4, 1), (5, 1), (6, 1), (7, 1), (8, 1), (9, 1), (10, 1)]) [_, _, _, _, _, _, _, _, _, _, _] underlying32 zeroValue32 rfl (fun w => by kernel_rfl) rfl (.one (by first | rfl | assumption) (.one (by first | rfl | assumption) (.one (by first | rfl | assumption) (.one (by first | rfl | assumption) (.one (by first | rfl | assumption) (.zero (zs := [.bool false]) rfl (.zero (zs := [.int .i64 0]) rfl (.zero (zs := [.int .i64 0]) rfl (.zero (zs := [.int .i64 0]) rfl (.zero (zs := [.int .i64 0]) rfl (.zero (zs := [.bool false]) rfl .nil))))))))))) rfl) ?_
   refine jQ 19 rfl Lr rfl (gV 20 rfl Lr 0 underlying37 rfl sizeOf32 rfl ?_)
   refine fU 21 rfl (by kernel_rfl) (cZ 0 (l' := [_, _, _, _, _, _, _, _, _, _, _, _, _, _, _, _, _, _, _, _, _, _, _, _, _, _, _, _, _, _, _, _, _, _]) (us := [_, _, _, _, _, _, _, _, _, _, _]) Ho.f5 sizeOf32 rfl rfl rfl (aC (by first | rfl | assumption) (aC (by first | rfl | assumption) (aC (by first | rfl | assumption) (aC (by first | rfl | assumption) (aC (by first | rfl | assumption) (aC (by first | rfl | assumption) (aC (by first | rfl | assumption) (aC (by first | rfl | assumption) (aC (by first | rfl | assumption) (aC (by first | rfl | assumption) (aC (by first | rfl | assumption) bV))))))))))) rfl rfl) ?_
   rintro _ Vu KU
   have Wj := aB.kp (KU.f7.f7.f7.f7.f7.f7.f7)
   refine fQ Wj (by kernel_rfl) ?_
   refine pO (aj (ah (aN rfl (aN rfl (aN rfl (bP rfl (bF 13 underlying37 rfl sizeOf4 rfl (aG (aS 13 (l' := [_, _, _, _, _, _, _, _, _, _, _, _, _, _, _, _, _, _, _, _, _, _, _, _, _, _, _, _, _, _, _, _, _, _]) KU sizeOf4 rfl rfl (by first | rfl | assumption) rfl rfl) ?_))))))))
   rintro _ Vw MP
   refine bP rfl (bF 14 underlying37 rfl sizeOf4 rfl (aG (aS 14 (l' := [_, _, _, _, _, _, _, _, _, _, _, _, _, _, _, _, _, _, _, _, _, _, _, _, _, _, _, _, _, _, _, _, _, _]) MP sizeOf4 rfl rfl (by first | rfl | assumption) rfl rfl) ?_))
   rintro _ Vx Qh
   refine bP rfl (bF 15 underlying37 rfl sizeOf3 rfl (aG (aS 15 (l' := [_, _, _, _, _, _, _, _, _, _, _, _, _, _, _, _, _, _, _, _, _, _, _, _, _, _, _, _, _, _, _, _, _, _]) Qh sizeOf3 rfl rfl (by first | rfl | assumption) rfl rfl) ?_))
   rintro _ Xd Qi
   refine aA (fZ (.inr rfl) results110 ?_)
   have Ul := Qi.f4
   have Um := Ul.oV
   exact ⟨_, _, _, _, _, Um.f5.f6.f3.f6.f6.f7.f7⟩
 ·skip
  refine kQ 9 rfl (by kernel_rfl) (ig (wQ .i64) Q9) (oW rfl) ?_
  rintro _ Vy ⟨b31, rfl, Jy⟩
  have Wn := aB.kp (Jy.f4.right.f4.f4.f4.f4)
  refine dQ Wn (fun W hW => (Kp.h hW).right.f3.f3.f3) ?_
  refine BH (i := 8) (j := 12) (by kernel_rfl) ?_ ?_
  ·skip
   refine kQ 8 rfl (by kernel_rfl) (xB (zf rfl func102 rfl rfl) (mP Jy.f4)) (oW rfl) ?_
   rintro _ w32 ⟨rfl, NS⟩
   have SC := aB.kp (NS.f5.f5.f5.f5.f5)
   refine dQ SC (fun W hW => (Kp.h hW).right.f4.f4.f4.f4) ?_
   refine jg 10 rfl SC (fun _ => fF (zl := [.int .i64 0, .map none]) (pl := [(0, 1), (1, 1)]) [_, _] underlying85 zeroValue85 rfl (fun w => by kernel_rfl) rfl (.one (by first | rfl | assumption) (.one (by first | rfl | assumption) .nil)) rfl) ?_
   refine BH (i := 11) (j := 12) (by kernel_rfl) ?_ ?_
   ·skip
    refine kQ 11 rfl (by kernel_rfl) (iL (l := [_, _]) NS rfl rfl) (oW rfl) ?_
    rintro _ Xf ⟨b33, rfl, Jz⟩
    have Wp := aB.kp (Jz.f6.f6.f6.f6.f6.f6)
    refine dQ Wp (fun W hW => (Kp.h hW).right.f5.f5.f5.f5.f5) ?_
    refine kE 12 rfl (ig (wQ .i64) Jz) ?_
    rintro _ XK ⟨b34, rfl, Qj⟩
    have Ls := aB.kp (Qj.f7.f7.f7.f7.f7.f7.f7)
    refine dQ Ls (fun W hW => (Kp.h hW).right.f6.f6.f6.f6.f6.f6) ?_
    refine jg 18 rfl Ls (fun _ => fF (zl := [.pointer none, .pointer none, .pointer none, .map none, .int .i64 0, .bool false, .int .i64 0, .int .i64 0, .int .i64 0, .int .i64 0, .bool false]) (pl := [(0, 1), (1, 1), (2, 1), (3, 1), (4, 1), (5, 1), (6, 1), (7, 1), (8, 1), (9, 1), (10, 1)]) [_, _, _, _, _, _, _, _, _, _, _] underlying32 zeroValue32 rfl (fun w => by kernel_rfl) rfl (.one (by first | rfl | assumption) (.one (by first | rfl | assumption) (.one (by first | rfl | assumption) (.one (by first | rfl | assumption) (.one (by first | rfl | assumption) (.zero (zs := [.bool false]) rfl (.zero (zs := [.int .i64 0]) rfl (.zero (zs := [.int .i64 0]) rfl (.zero (zs := [.int .i64 0]) rfl (.zero (zs := [.int .i64 0]) rfl (.zero (zs := [.bool false]) rfl .nil))))))))))) rfl) ?_
    refine jQ 19 rfl Ls rfl (gV 20 rfl Ls 0 underlying37 rfl sizeOf32 rfl ?_)
    refine fU 21 rfl (by kernel_rfl) (cZ 0 (l' := [_, _, _, _, _, _, _, _, _, _, _, _, _, _, _, _, _, _, _, _, _, _, _, _, _, _, _, _, _, _, _, _, _, _]) (us := [_, _, _, _, _, _, _, _, _, _, _]) Qj.f5 sizeOf32 rfl rfl rfl (aC (by first | rfl | assumption) (aC (by first | rfl | assumption) (aC (by first | rfl | assumption) (aC (by first | rfl | assumption) (aC (by first | rfl | assumption) (aC (by first | rfl | assumption) (aC (by first | rfl | assumption) (aC (by first | rfl | assumption) (aC (by first | rfl | assumption) (aC (by first | rfl | assumption) (aC (by first | rfl | assumption) bV))))))))))) rfl rfl) ?_
    rintro _ w35 UL
    have Wq := aB.kp (UL.f7.f7.f7.f7.f7.f7.f7)
    refine fQ Wq (by kernel_rfl) ?_
    refine pO (aj (ah (aN rfl (aN rfl (aN rfl (bP rfl (bF 13 underlying37 rfl sizeOf4 rfl (aG (aS 13 (l' := [_, _, _, _, _, _, _, _, _, _, _, _, _, _, _, _, _, _, _, _, _, _, _, _, _, _, _, _, _, _, _, _, _, _]) UL sizeOf4 rfl rfl (by first | rfl | assumption) rfl rfl) ?_))))))))
    rintro _ w36 Vz
    refine bP rfl (bF 14 underlying37 rfl sizeOf4 rfl (aG (aS 14 (l' := [_, _, _, _, _, _, _, _, _, _, _, _, _, _, _, _, _, _, _, _, _, _, _, _, _, _, _, _, _, _, _, _, _, _]) Vz sizeOf4 rfl rfl (by first | rfl | assumption) rfl rfl) ?_))
    rintro _ w37 XL
    refine bP rfl (bF 15 underlying37 rfl sizeOf3 rfl (aG (aS 15 (l' := [_, _, _, _, _, _, _, _, _, _, _, _, _, _, _, _, _, _, _, _, _, _, _, _, _, _, _, _, _, _, _, _, _, _]) XL sizeOf3 rfl rfl (by first | rfl | assumption) rfl rfl) ?_))
    rintro _ VA TK
    refine aA (fZ (.inr rfl) results110 ?_)
    have YK := TK.f2
    have YL := YK.oV
    exact ⟨_, _, _, _, _, YL.f4.f6.f3.f6.f6.f7.f7⟩
   ·skip
    refine kQ 12 rfl (by kernel_rfl) (ig (wQ .i64) NS) (oW rfl) ?_
    rintro _ w41 ⟨b41, rfl, RY⟩
    have Ws := aB.kp (RY.f6.f6.f6.f6.f6.f6)
    refine dQ Ws (fun W hW => (Kp.h hW).right.f5.f5.f5.f5.f5) ?_
    refine kE 11 rfl (iL (l := [_, _]) RY rfl rfl) ?_
    rintro _ w42 ⟨b42, rfl, UM⟩
    have Lu := aB.kp (UM.f7.f7.f7.f7.f7.f7.f7)
    refine dQ Lu (fun W hW => (Kp.h hW).right.f6.f6.f6.f6.f6.f6) ?_
    refine jg 18 rfl Lu (fun _ => fF (zl := [.pointer none, .pointer none, .pointer none, .map none, .int .i64 0, .bool false, .int .i64 0, .int .i64 0, .int .i64 0, .int .i64 0, .bool false]) (pl := [(0, 1), (1, 1), (2, 1), (3, 1), (4, 1), (5, 1), (6, 1), (7, 1), (8, 1), (9, 1), (10, 1)]) [_, _, _, _, _, _, _, _, _, _, _] underlying32 zeroValue32 rfl (fun w => by kernel_rfl) rfl (.one (by first | rfl | assumption) (.one (by first | rfl | assumption) (.one (by first | rfl | assumption) (.one (by first | rfl | assumption) (.one (by first | rfl | assumption) (.zero (zs := [.bool false]) rfl (.zero (zs := [.int .i64 0]) rfl (.zero (zs := [.int .i64 0]) rfl (.zero (zs := [.int .i64 0]) rfl (.zero (zs := [.int .i64 0]) rfl (.zero (zs := [.bool false]) rfl .nil))))))))))) rfl) ?_
    refine jQ 19 rfl Lu rfl (gV 20 rfl Lu 0 underlying37 rfl sizeOf32 rfl ?_)
    refine fU 21 rfl (by kernel_rfl) (cZ 0 (l' := [_, _, _, _, _, _, _, _, _, _, _, _, _, _, _, _, _, _, _, _, _, _, _, _, _, _, _, _, _, _, _, _, _, _]) (us := [_, _, _, _, _, _, _, _, _, _, _]) UM.f5 sizeOf32 rfl rfl rfl (aC (by first | rfl | assumption) (aC (by first | rfl | assumption) (aC (by first | rfl | assumption) (aC (by first | rfl | assumption) (aC (by first | rfl | assumption) (aC (by first | rfl | assumption) (aC (by first | rfl | assumption) (aC (by first | rfl | assumption) (aC (by first | rfl | assumption) (aC (by first | rfl | assumption) (aC (by first | rfl | assumption) bV))))))))))) rfl rfl) ?_
    rintro _ XM UN
    have Wu := aB.kp (UN.f7.f7.f7.f7.f7.f7.f7)
    refine fQ Wu (by kernel_rfl) ?_
    refine pO (aj (ah (aN rfl (aN rfl (aN rfl (bP rfl (bF 13 underlying37 rfl sizeOf4 rfl (aG (aS 13 (l' := [_, _, _, _, _, _, _, _, _, _, _, _, _, _, _, _, _, _, _, _, _, _, _, _, _, _, _, _, _, _, _, _, _, _]) UN sizeOf4 rfl rfl (by first | rfl | assumption) rfl rfl) ?_))))))))
    rintro _ w44 TL
    refine bP rfl (bF 14 underlying37 rfl sizeOf4 rfl (aG (aS 14 (l' := [_, _, _, _, _, _, _, _, _, _, _, _, _, _, _, _, _, _, _, _, _, _, _, _, _, _, _, _, _, _, _, _, _, _]) TL sizeOf4 rfl rfl (by first | rfl | assumption) rfl rfl) ?_))
    rintro _ Xi RZ
    refine bP rfl (bF 15 underlying37 rfl sizeOf3 rfl (aG (aS 15 (l' := [_, _, _, _, _, _, _, _, _, _, _, _, _, _, _, _, _, _, _, _, _, _, _, _, _, _, _, _, _, _, _, _, _, _]) RZ sizeOf3 rfl rfl (by first | rfl | assumption) rfl rfl) ?_))
    rintro _ w46 VB
    refine aA (fZ (.inr rfl) results110 ?_)
    have YM := VB.f3
    have YN := YM.oV
    exact ⟨_, _, _, _, _, YN.f4.f6.f3.f6.f6.f7.f7⟩
  ·skip
   refine kQ 12 rfl (by kernel_rfl) (ig (wQ .i64) Jy) (oW rfl) ?_
   rintro _ w49 ⟨b49, rfl, Xp⟩
   have Wv := aB.kp (Xp.f5.right.f5.f5.f5.f5.f5)
   refine dQ Wv (fun W hW => (Kp.h hW).right.f4.f4.f4.f4) ?_
   refine kE 8 rfl (wW rfl func102 (mP Xp.f5)) ?_
   rintro _ w50 ⟨rfl, UY⟩
   have SE := aB.kp (UY.f6.f6.f6.f6.f6.f6)
   refine dQ SE (fun W hW => (Kp.h hW).right.f5.f5.f5.f5.f5) ?_
   refine jg 10 rfl SE (fun _ => fF (zl := [.int .i64 0, .map none]) (pl := [(0, 1), (1, 1)]) [_, _] underlying85 zeroValue85 rfl (fun w => by kernel_rfl) rfl (.one (by first | rfl | assumption) (.one (by first | rfl | assumption) .nil)) rfl) ?_
   refine kE 11 rfl (iL (l := [_, _]) UY rfl rfl) ?_
   rintro _ w51 ⟨b51, rfl, Un⟩
   have LC := aB.kp (Un.f7.f7.f7.f7.f7.f7.f7)
   refine dQ LC (fun W hW => (Kp.h hW).right.f6.f6.f6.f6.f6.f6) ?_
   refine jg 18 rfl LC (fun _ => fF (zl := [.pointer none, .pointer none, .pointer none, .map none, .int .i64 0, .bool false, .int .i64 0, .int .i64 0, .int .i64 0, .int .i64 0, .bool false]) (pl := [(0, 1), (1, 1), (2, 1), (3, 1), (4, 1), (5, 1), (6, 1), (7, 1), (8, 1), (9, 1), (10, 1)]) [_, _, _, _, _, _, _, _, _, _, _] underlying32 zeroValue32 rfl (fun w => by kernel_rfl) rfl (.one (by first | rfl | assumption) (.one (by first | rfl | assumption) (.one (by first | rfl | assumption) (.one (by first | rfl | assumption) (.one (by first | rfl | assumption) (.zero (zs := [.bool false]) rfl (.zero (zs := [.int .i64 0]) rfl (.zero (zs := [.int .i64 0]) rfl (.zero (zs := [.int .i64 0]) rfl (.zero (zs := [.int .i64 0]) rfl (.zero (zs := [.bool false]) rfl .nil))))))))))) rfl) ?_
   refine jQ 19 rfl LC rfl (gV 20 rfl LC 0 underlying37 rfl sizeOf32 rfl ?_)
   refine fU 21 rfl (by kernel_rfl) (cZ 0 (l' := [_, _, _, _, _, _, _, _, _, _, _, _, _, _, _, _, _, _, _, _, _, _, _, _, _, _, _, _, _, _, _, _, _, _]) (us := [_, _, _, _, _, _, _, _, _, _, _]) Un.f5 sizeOf32 rfl rfl rfl (aC (by first | rfl | assumption) (aC (by first | rfl | assumption) (aC (by first | rfl | assumption) (aC (by first | rfl | assumption) (aC (by first | rfl | assumption) (aC (by first | rfl | assumption) (aC (by first | rfl | assumption) (aC (by first | rfl | assumption) (aC (by first | rfl | assumption) (aC (by first | rfl | assumption) (aC (by first | rfl | assumption) bV))))))))))) rfl rfl) ?_
   rintro _ w52 SG
   have Wx := aB.kp (SG.f7.f7.f7.f7.f7.f7.f7)
   refine fQ Wx (by kernel_rfl) ?_
   refine pO (aj (ah (aN rfl (aN rfl (aN rfl (bP rfl (bF 13 underlying37 rfl sizeOf4 rfl (aG (aS 13 (l' := [_, _, _, _, _, _, _, _, _, _, _, _, _, _, _, _, _, _, _, _, _, _, _, _, _, _, _, _, _, _, _, _, _, _]) SG sizeOf4 rfl rfl (by first | rfl | assumption) rfl rfl) ?_))))))))
   rintro _ w53 UZ
   refine bP rfl (bF 14 underlying37 rfl sizeOf4 rfl (aG (aS 14 (l' := [_, _, _, _, _, _, _, _, _, _, _, _, _, _, _, _, _, _, _, _, _, _, _, _, _, _, _, _, _, _, _, _, _, _]) UZ sizeOf4 rfl rfl (by first | rfl | assumption) rfl rfl) ?_))
   rintro _ w54 YO
   refine bP rfl (bF 15 underlying37 rfl sizeOf3 rfl (aG (aS 15 (l' := [_, _, _, _, _, _, _, _, _, _, _, _, _, _, _, _, _, _, _, _, _, _, _, _, _, _, _, _, _, _, _, _, _, _]) YO sizeOf3 rfl rfl (by first | rfl | assumption) rfl rfl) ?_))
   rintro _ w55 Xq
   refine aA (fZ (.inr rfl) results110 ?_)
   have YP := Xq.f4
   have YQ := YP.oV
   exact ⟨_, _, _, _, _, YQ.f4.f6.f3.f6.f6.f7.f7⟩
 ·skip
  refine kQ 12 rfl (by kernel_rfl) (ig (wQ .i64) Q9) (oW rfl) ?_
  rintro _ w58 ⟨b58, rfl, Rf⟩
  have Wy := aB.kp (Rf.f4.right.f4.f4.f4.f4)
  refine dQ Wy (fun W hW => (Kp.h hW).right.f3.f3.f3) ?_
  refine BH (i := 8) (j := 9) (by kernel_rfl) ?_ ?_
  ·skip
   refine kQ 8 rfl (by kernel_rfl) (xB (zf rfl func102 rfl rfl) (mP Rf.f4)) (oW rfl) ?_
   rintro _ w59 ⟨rfl, WA⟩
   have WB := aB.kp (WA.f5.f5.f5.f5.f5)
   refine dQ WB (fun W hW => (Kp.h hW).right.f4.f4.f4.f4) ?_
   refine kE 9 rfl (ig (wQ .i64) WA) ?_
   rintro _ YR ⟨b60, rfl, U0⟩
   have SH := aB.kp (U0.f6.f6.f6.f6.f6.f6)
   refine dQ SH (fun W hW => (Kp.h hW).right.f5.f5.f5.f5.f5) ?_
   refine jg 10 rfl SH (fun _ => fF (zl := [.int .i64 0, .map none]) (pl := [(0, 1), (1, 1)]) [_, _] underlying85 zeroValue85 rfl (fun w => by kernel_rfl) rfl (.one (by first | rfl | assumption) (.one (by first | rfl | assumption) .nil)) rfl) ?_
   refine kE 11 rfl (iL (l := [_, _]) U0 rfl rfl) ?_
   rintro _ w61 ⟨b61, rfl, Xt⟩
   have LD := aB.kp (Xt.f7.f7.f7.f7.f7.f7.f7)
   refine dQ LD (fun W hW => (Kp.h hW).right.f6.f6.f6.f6.f6.f6) ?_
   refine jg 18 rfl LD (fun _ => fF (zl := [.pointer none, .pointer none, .pointer none, .map none, .int .i64 0, .bool false, .int .i64 0, .int .i64 0, .int .i64 0, .int .i64 0, .bool false]) (pl := [(0, 1), (1, 1), (2, 1), (3, 1), (4, 1), (5, 1), (6, 1), (7, 1), (8, 1), (9, 1), (10, 1)]) [_, _, _, _, _, _, _, _, _, _, _] underlying32 zeroValue32 rfl (fun w => by kernel_rfl) rfl (.one (by first | rfl | assumption) (.one (by first | rfl | assumption) (.one (by first | rfl | assumption) (.one (by first | rfl | assumption) (.one (by first | rfl | assumption) (.zero (zs := [.bool false]) rfl (.zero (zs := [.int .i64 0]) rfl (.zero (zs := [.int .i64 0]) rfl (.zero (zs := [.int .i64 0]) rfl (.zero (zs := [.int .i64 0]) rfl (.zero (zs := [.bool false]) rfl .nil))))))))))) rfl) ?_
   refine jQ 19 rfl LD rfl (gV 20 rfl LD 0 underlying37 rfl sizeOf32 rfl ?_)
   refine fU 21 rfl (by kernel_rfl) (cZ 0 (l' := [_, _, _, _, _, _, _, _, _, _, _, _, _, _, _, _, _, _, _, _, _, _, _, _, _, _, _, _, _, _, _, _, _, _]) (us := [_, _, _, _, _, _, _, _, _, _, _]) Xt.f5 sizeOf32 rfl rfl rfl (aC (by first | rfl | assumption) (aC (by first | rfl | assumption) (aC (by first | rfl | assumption) (aC (by first | rfl | assumption) (aC (by first | rfl | assumption) (aC (by first | rfl | assumption) (aC (by first | rfl | assumption) (aC (by first | rfl | assumption) (aC (by first | rfl | assumption) (aC (by first | rfl | assumption) (aC (by first | rfl | assumption) bV))))))))))) rfl rfl) ?_
   rintro _ w62 WE
   have WG := aB.kp (WE.f7.f7.f7.f7.f7.f7.f7)
   refine fQ WG (by kernel_rfl) ?_
   refine pO (aj (ah (aN rfl (aN rfl (aN rfl (bP rfl (bF 13 underlying37 rfl sizeOf4 rfl (aG (aS 13 (l' := [_, _, _, _, _, _, _, _, _, _, _, _, _, _, _, _, _, _, _, _, _, _, _, _, _, _, _, _, _, _, _, _, _, _]) WE sizeOf4 rfl rfl (by first | rfl | assumption) rfl rfl) ?_))))))))
   rintro _ w63 WH
   refine bP rfl (bF 14 underlying37 rfl sizeOf4 rfl (aG (aS 14 (l' := [_, _, _, _, _, _, _, _, _, _, _, _, _, _, _, _, _, _, _, _, _, _, _, _, _, _, _, _, _, _, _, _, _, _]) WH sizeOf4 rfl rfl (by first | rfl | assumption) rfl rfl) ?_))
   rintro _ w64 WI
   refine bP rfl (bF 15 underlying37 rfl sizeOf3 rfl (aG (aS 15 (l' := [_, _, _, _, _, _, _, _, _, _, _, _, _, _, _, _, _, _, _, _, _, _, _, _, _, _, _, _, _, _, _, _, _, _]) WI sizeOf3 rfl rfl (by first | rfl | assumption) rfl rfl) ?_))
   rintro _ w65 YS
   refine aA (fZ (.inr rfl) results110 ?_)
   have YT := YS.f5
   have YU := YT.oV
   exact ⟨_, _, _, _, _, YU.f5.f6.f3.f6.f6.f7.f7⟩
  ·skip
   refine kQ 9 rfl (by kernel_rfl) (ig (wQ .i64) Rf) (oW rfl) ?_
   rintro _ w68 ⟨b68, rfl, Xu⟩
   have WJ := aB.kp (Xu.f5.right.f5.f5.f5.f5.f5)
   refine dQ WJ (fun W hW => (Kp.h hW).right.f4.f4.f4.f4) ?_
   refine kE 8 rfl (wW rfl func102 (mP Xu.f5)) ?_
   rintro _ w69 ⟨rfl, Xv⟩
   have SI := aB.kp (Xv.f6.f6.f6.f6.f6.f6)
   refine dQ SI (fun W hW => (Kp.h hW).right.f5.f5.f5.f5.f5) ?_
   refine jg 10 rfl SI (fun _ => fF (zl := [.int .i64 0, .map none]) (pl := [(0, 1), (1, 1)]) [_, _] underlying85 zeroValue85 rfl (fun w => by kernel_rfl) rfl (.one (by first | rfl | assumption) (.one (by first | rfl | assumption) .nil)) rfl) ?_
   refine kE 11 rfl (iL (l := [_, _]) Xv rfl rfl) ?_
   rintro _ w70 ⟨b70, rfl, WM⟩
   have LG := aB.kp (WM.f7.f7.f7.f7.f7.f7.f7)
   refine dQ LG (fun W hW => (Kp.h hW).right.f6.f6.f6.f6.f6.f6) ?_
   refine jg 18 rfl LG (fun _ => fF (zl := [.pointer none, .pointer none, .pointer none, .map none, .int .i64 0, .bool false, .int .i64 0, .int .i64 0, .int .i64 0, .int .i64 0, .bool false]) (pl := [(0, 1), (1, 1), (2, 1), (3, 1), (4, 1), (5, 1), (6, 1), (7, 1), (8, 1), (9, 1), (10, 1)]) [_, _, _, _, _, _, _, _, _, _, _] underlying32 zeroValue32 rfl (fun w => by kernel_rfl) rfl (.one (by first | rfl | assumption) (.one (by first | rfl | assumption) (.one (by first | rfl | assumption) (.one (by first | rfl | assumption) (.one (by first | rfl | assumption) (.zero (zs := [.bool false]) rfl (.zero (zs := [.int .i64 0]) rfl (.zero (zs := [.int .i64 0]) rfl (.zero (zs := [.int .i64 0]) rfl (.zero (zs := [.int .i64 0]) rfl (.zero (zs := [.bool false]) rfl .nil))))))))))) rfl) ?_
   refine jQ 19 rfl LG rfl (gV 20 rfl LG 0 underlying37 rfl sizeOf32 rfl ?_)
   refine fU 21 rfl (by kernel_rfl) (cZ 0 (l' := [_, _, _, _, _, _, _, _, _, _, _, _, _, _, _, _, _, _, _, _, _, _, _, _, _, _, _, _, _, _, _, _, _, _]) (us := [_, _, _, _, _, _, _, _, _, _, _]) WM.f5 sizeOf32 rfl rfl rfl (aC (by first | rfl | assumption) (aC (by first | rfl | assumption) (aC (by first | rfl | assumption) (aC (by first | rfl | assumption) (aC (by first | rfl | assumption) (aC (by first | rfl | assumption) (aC (by first | rfl | assumption) (aC (by first | rfl | assumption) (aC (by first | rfl | assumption) (aC (by first | rfl | assumption) (aC (by first | rfl | assumption) bV))))))))))) rfl rfl) ?_
   rintro _ w71 U1
   have WO := aB.kp (U1.f7.f7.f7.f7.f7.f7.f7)
   refine fQ WO (by kernel_rfl) ?_
   refine pO (aj (ah (aN rfl (aN rfl (aN rfl (bP rfl (bF 13 underlying37 rfl sizeOf4 rfl (aG (aS 13 (l' := [_, _, _, _, _, _, _, _, _, _, _, _, _, _, _, _, _, _, _, _, _, _, _, _, _, _, _, _, _, _, _, _, _, _]) U1 sizeOf4 rfl rfl (by first | rfl | assumption) rfl rfl) ?_))))))))
   rintro _ w72 YV
   refine bP rfl (bF 14 underlying37 rfl sizeOf4 rfl (aG (aS 14 (l' := [_, _, _, _, _, _, _, _, _, _, _, _, _, _, _, _, _, _, _, _, _, _, _, _, _, _, _, _, _, _, _, _, _, _]) YV sizeOf4 rfl rfl (by first | rfl | assumption) rfl rfl) ?_))
   rintro _ w73 YW
   refine bP rfl (bF 15 underlying37 rfl sizeOf3 rfl (aG (aS 15 (l' := [_, _, _, _, _, _, _, _, _, _, _, _, _, _, _, _, _, _, _, _, _, _, _, _, _, _, _, _, _, _, _, _, _, _]) YW sizeOf3 rfl rfl (by first | rfl | assumption) rfl rfl) ?_))
   rintro _ w74 H74
   refine aA (fZ (.inr rfl) results110 ?_)
   have YX := H74.f5
   have YZ := YX.oV
   exact ⟨_, _, _, _, _, YZ.f4.f6.f3.f6.f6.f7.f7⟩
theorem aB.xO {c : kY} {u : List Value} (H : aB w0 w F) (hu : (u.all fun x => x.oneCell') = true) : aB w0 w (qy false c u • F) := by
  unfold qy
  rw [if_neg (by decide)]
  exact H.jF hu
theorem qB {dP : Bool} {c : kY} {u : List Value} (H : aB w0 w (qy dP c u • F)) : (u.all fun x => x.oneCell') = true := by
  unfold qy at H
  cases dP with
  | true =>
    rw [if_pos rfl] at H
    obtain ⟨⟨pb, pr, pw, pt, pm⟩, H⟩ := H.lK
    obtain ⟨h, _⟩ := H.flat.fact
    rw [h]; rfl
  | false =>
    rw [if_neg (by decide)] at H
    exact H.fact.1
theorem aB.Uo {pb pr pw pt pm : Nat} {c : kY} (H : aB w0 w (dL pb c.L c.pt c.mark • bY pr c.E c.at_ • dB pw (.cells #[.int .i64 c.place, .map (some pt)] 85 (0, 0)) • eP oM pt (vU c.tx) • sW pm c.un • F)) : aB w0 w (qy true c (Lm pb pr pw pm c) • F) := by
  unfold qy
  rw [if_pos rfl]
  exact aB.gY (pb, pr, pw, pt, pm) (aB.deep (aB.jF rfl (H.of_eq (by unfold JY; simp only [bT]))))
theorem aB.was {c : kY} {u : List Value} (H : aB w0 w (qy true c u • F)) : ∃ pb pr pw pt pm, u = Lm pb pr pw pm c ∧ aB w0 w (dL pb c.L c.pt c.mark • bY pr c.E c.at_ • dB pw (.cells #[.int .i64 c.place, .map (some pt)] 85 (0, 0)) • eP oM pt (vU c.tx) • sW pm c.un • F) := by
  unfold qy at H
  rw [if_pos rfl] at H
  obtain ⟨⟨pb, pr, pw, pt, pm⟩, H⟩ := H.lK
  obtain ⟨h, H⟩ := H.flat.fact
  exact ⟨pb, pr, pw, pt, pm, h, H.of_eq (by unfold JY; simp only [bT])⟩
theorem aB.Dv {pb pr pw pt pm ph bl : Nat} {u0 u1 u2 u3 u4 u5 u6 u7 u8 u9 ua : Value} (h1 : jV s) (hp : s.put = []) (H : aB w0 w (dB e (.cells (.pointer (some ⟨pb, 0, none⟩) :: .pointer (some ⟨pr, 0, none⟩) :: .pointer (some ⟨pw, 0, none⟩) :: .map (some pm) :: .int .i64 s.c.mode :: .bool s.c.over :: .int .i64 s.c.last :: .int .i64 s.c.fr :: .int .i64 s.c.to :: .int .i64 s.c.res :: .bool s.c.run :: .pointer (some ⟨ph, 0, none⟩) :: .pointer (some ⟨bl, 0, none⟩) :: .bool s.given :: .bool s.minus :: .int .i64 s.arg :: .bool s.dP :: u0 :: u1 :: u2 :: u3 :: u4 :: u5 :: u6 :: u7 :: u8 :: u9 :: ua :: .int .i64 s.cls :: .bool s.killed :: .bool s.jX :: .bool s.argues :: .bool s.whole :: .slice none 0 0 :: []).toArray 37 (0, 0)) • dL pb s.c.L s.c.pt s.c.mark • bY pr s.c.E s.c.at_ • dB pw (.cells #[.int .i64 s.c.place, .map (some pt)] 85 (0, 0)) • eP oM pt (vU s.c.tx) • sW pm s.c.un • fC ph s.hl s.base s.most • dB bl (.cells #[.int .i64 s.vT] 106 (0, 0)) • qy s.dP s.was [u0, u1, u2, u3, u4, u5, u6, u7, u8, u9, ua] • F)) : aB w0 w (dw e s • F) := by
  refine aB.dG (pb := pb) (pr := pr) (pw := pw) (pt := pt) (pm := pm) (ph := ph) (bl := bl) (u0 := u0) (u1 := u1) (u2 := u2) (u3 := u3) (u4 := u4) (u5 := u5) (u6 := u6) (u7 := u7) (u8 := u8) (u9 := u9) (ua := ua) (pv := .slice none 0 0) (es := []) h1 (by rw [hp]; rfl) ?_
  rw [hp]
  exact (H.oJ none).of_eq (by unfold Eh; ac_rfl)
theorem aB.Ko {pb pr pw pt pm ph bl : Nat} {u0 u1 u2 u3 u4 u5 u6 u7 u8 u9 ua : Value} (h1 : jV s) (hp : s.put = []) (hi : s.dP = false) (H : aB w0 w (dB e (.cells (.pointer (some ⟨pb, 0, none⟩) :: .pointer (some ⟨pr, 0, none⟩) :: .pointer (some ⟨pw, 0, none⟩) :: .map (some pm) :: .int .i64 s.c.mode :: .bool s.c.over :: .int .i64 s.c.last :: .int .i64 s.c.fr :: .int .i64 s.c.to :: .int .i64 s.c.res :: .bool s.c.run :: .pointer (some ⟨ph, 0, none⟩) :: .pointer (some ⟨bl, 0, none⟩) :: .bool s.given :: .bool s.minus :: .int .i64 s.arg :: .bool false :: u0 :: u1 :: u2 :: u3 :: u4 :: u5 :: u6 :: u7 :: u8 :: u9 :: ua :: .int .i64 s.cls :: .bool s.killed :: .bool s.jX :: .bool s.argues :: .bool s.whole :: .slice none 0 0 :: []).toArray 37 (0, 0)) • dL pb s.c.L s.c.pt s.c.mark • bY pr s.c.E s.c.at_ • dB pw (.cells #[.int .i64 s.c.place, .map (some pt)] 85 (0, 0)) • eP oM pt (vU s.c.tx) • sW pm s.c.un • fC ph s.hl s.base s.most • dB bl (.cells #[.int .i64 s.vT] 106 (0, 0)) • F)) (hu : ([u0, u1, u2, u3, u4, u5, u6, u7, u8, u9, ua].all fun x => x.oneCell') = true := by rfl) : aB w0 w (dw e s • F) := by
  refine aB.Dv (pb := pb) (pr := pr) (pw := pw) (pt := pt) (pm := pm) (ph := ph) (bl := bl) (u0 := u0) (u1 := u1) (u2 := u2) (u3 := u3) (u4 := u4) (u5 := u5) (u6 := u6) (u7 := u7) (u8 := u8) (u9 := u9) (ua := ua) h1 hp ?_
  rw [hi]
  exact (H.xO (c := s.was) (u := [u0, u1, u2, u3, u4, u5, u6, u7, u8, u9, ua]) hu).of_eq (by ac_rfl)
theorem aB.Pj {pb pr pw pt pm ph bl : Nat} {u0 u1 u2 u3 u4 u5 u6 u7 u8 u9 ua : Value} {pv : Value} {es : List cO} (h1 : jV s) (h2 : es.map cO.says = s.put) (H : aB w0 w (Eh pv es • dB e (.cells (.pointer (some ⟨pb, 0, none⟩) :: .pointer (some ⟨pr, 0, none⟩) :: .pointer (some ⟨pw, 0, none⟩) :: .map (some pm) :: .int .i64 s.c.mode :: .bool s.c.over :: .int .i64 s.c.last :: .int .i64 s.c.fr :: .int .i64 s.c.to :: .int .i64 s.c.res :: .bool s.c.run :: .pointer (some ⟨ph, 0, none⟩) :: .pointer (some ⟨bl, 0, none⟩) :: .bool s.given :: .bool s.minus :: .int .i64 s.arg :: .bool s.dP :: u0 :: u1 :: u2 :: u3 :: u4 :: u5 :: u6 :: u7 :: u8 :: u9 :: ua :: .int .i64 s.cls :: .bool s.killed :: .bool s.jX :: .bool s.argues :: .bool s.whole :: pv :: []).toArray 37 (0, 0)) • dL pb s.c.L s.c.pt s.c.mark • bY pr s.c.E s.c.at_ • dB pw (.cells #[.int .i64 s.c.place, .map (some pt)] 85 (0, 0)) • eP oM pt (vU s.c.tx) • sW pm s.c.un • fC ph s.hl s.base s.most • dB bl (.cells #[.int .i64 s.vT] 106 (0, 0)) • qy s.dP s.was [u0, u1, u2, u3, u4, u5, u6, u7, u8, u9, ua] • F)) : aB w0 w (dw e s • F) := by
  refine aB.dG (pb := pb) (pr := pr) (pw := pw) (pt := pt) (pm := pm) (ph := ph) (bl := bl) (u0 := u0) (u1 := u1) (u2 := u2) (u3 := u3) (u4 := u4) (u5 := u5) (u6 := u6) (u7 := u7) (u8 := u8) (u9 := u9) (ua := ua) (pv := pv) (es := es) h1 h2 ?_
  have hl : s.put.length = es.length := by rw [← h2]; simp
  rw [hl]
  exact H.of_eq (by unfold Eh; ac_rfl)
theorem IV (hl : List oQ) (l : List Int) (E : List (List Int)) (a : Nat) (m : Int) : JZ hl (kY.fresh l E a hl.length m) := ⟨by simp [kY.fresh], by simp [kY.fresh], by simp [kY.fresh]⟩
theorem Ur (hl : List oQ) (base most : Int) : jV (bg.new hl base most) :=
  ⟨IV _ _ _ _ _, by simp [bg.new], by simp [bg.new], by simp [bg.new], by simp [bg.new, bg.here, kY.fresh, dS], by simp [bg.new, kY.fresh]⟩
theorem Dw (H : aB w0 w (fC h hl base most • F)) : fO prog 40 #[.pointer (some ⟨h, 0, none⟩)] w fun v w' => ∃ e, v = .tuple #[.pointer (some ⟨e, 0, none⟩), .int .i64 0] ∧ aB w0 w' (dw e (bg.new hl base most) • fC h hl base most • F) := by
 refine gB func40 ntmps40 ?_
 dsimp only [bf, Nat.reduceAdd]
 refine ay (ah (aV rfl (aV rfl (aA (aj (ay (ay (ah (aN rfl (bZ rfl func45 (mQ H) ?_))))))))))
 rintro _ w1 ⟨q1, rfl, H1⟩
 refine aX (fA underlying33 rfl rfl) (aA (aj (aO rfl (fun h => by exfalso; (try simp only [aH] at h); simp at h) (fun h1 => ?_))))
 (try simp only [aH] at h1)
 refine aP (aj (ay (ah (aX (fF (zl := [.int .i64 0]) (pl := [(0, 0), (0, 0), (0, 1)]) [_] underlying106 zeroValue106 rfl (fun w => by kernel_rfl) rfl (.zero (zs := []) rfl (.zero (zs := []) rfl (.zero (zs := [.int .i64 0]) rfl .nil))) rfl) (jh (iL (l := [_]) H1 rfl rfl) ?_)))))
 rintro _ w2 ⟨b2, rfl, H2⟩
 refine aX (fF (zl := [.pointer none, .pointer none, .pointer none, .map none, .int .i64 0, .bool false, .int .i64 0, .int .i64 0, .int .i64 0, .int .i64 0, .bool false, .pointer none, .pointer none, .bool false, .bool false, .int .i64 0, .bool false, .pointer none, .pointer none, .pointer none, .map none, .int .i64 0, .bool false, .int .i64 0, .int .i64 0, .int .i64 0, .int .i64 0, .bool false, .int .i64 0, .bool false, .bool false, .bool false, .bool false, .slice none 0 0]) (pl := [(0, 11), (11, 1), (12, 1), (13, 1), (14, 1), (15, 1), (16, 1), (17, 11), (28, 1), (29, 1), (30, 1), (31, 1), (32, 1), (33, 1)]) [_, _, _, _, _, _, _, _, _, _, _, _, _, _, _, _, _, _, _, _, _, _, _, _, _, _, _, _, _, _, _, _, _, _] underlying37 zeroValue37 rfl (fun w => by kernel_rfl) rfl (.zero (zs := [.pointer none, .pointer none, .pointer none, .map none, .int .i64 0, .bool false, .int .i64 0, .int .i64 0, .int .i64 0, .int .i64 0, .bool false]) rfl (.zero (zs := [.pointer none]) rfl (.one (by first | rfl | assumption) (.zero (zs := [.bool false]) rfl (.zero (zs := [.bool false]) rfl (.zero (zs := [.int .i64 0]) rfl (.zero (zs := [.bool false]) rfl (.zero (zs := [.pointer none, .pointer none, .pointer none, .map none, .int .i64 0, .bool false, .int .i64 0, .int .i64 0, .int .i64 0, .int .i64 0, .bool false]) rfl (.zero (zs := [.int .i64 0]) rfl (.zero (zs := [.bool false]) rfl (.zero (zs := [.bool false]) rfl (.zero (zs := [.bool false]) rfl (.zero (zs := [.bool false]) rfl (.zero (zs := [.slice none 0 0]) rfl .nil)))))))))))))) rfl) ?_
 refine jh (iL (l := [_, _, _, _, _, _, _, _, _, _, _, _, _, _, _, _, _, _, _, _, _, _, _, _, _, _, _, _, _, _, _, _, _, _]) H2 rfl rfl) ?_
 rintro _ w3 ⟨b3, rfl, H3⟩
 refine aV rfl (aA (aj (ay (ah (aN rfl (bZ rfl func109 (F5 H3) ?_))))))
 rintro _ w4 ⟨p4, rfl, H4⟩
 refine bP rfl (bF 0 underlying37 rfl sizeOf32 rfl (bF 1 underlying32 rfl sizeOf28 rfl (aG (aS 1 (l' := [_, _, _, _, _, _, _, _, _, _, _, _, _, _, _, _, _, _, _, _, _, _, _, _, _, _, _, _, _, _, _, _, _, _]) H4.f2 sizeOf28 rfl rfl (by first | rfl | assumption) rfl rfl) ?_)))
 rintro _ w5 H5
 refine aA (aj (ay (ah (aN rfl (aN rfl (bZ rfl func110 (xw (E := []) (a := 0) H5.f4.right.f3.f3.f4.f4 (l := []) (fun W _ => kD.nil W _ none 0 (by decide)) (by decide)) ?_))))))
 rintro _ w6 ⟨qb, qw, qt, qm, qh, H6⟩
 refine aA (aj (ay (ah (aN rfl (aV rfl (aV rfl (aA (aj (aJ (lH (.inl rfl) results40 rfl rfl ?_))))))))))
 exact ⟨_, rfl, aB.Ko (s := bg.new hl base most) (Ur _ _ _) rfl rfl H6.f7.f9.f8.f8.f8.f8.f9.f9.f9⟩
end
end Go.Proofs.YtgndbccogcofjaaGreatDoor
end
