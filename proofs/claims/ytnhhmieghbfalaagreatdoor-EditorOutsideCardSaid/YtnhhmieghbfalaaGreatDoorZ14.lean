import Derived.Test.YtnhhmieghbfalaaGreatDoorZ4
import Derived.Test.YtnhhmieghbfalaaGreatDoorZ13
import Derived.Test.YtnhhmieghbfalaaGreatDoorZ6
import Derived.Lib.OthersKept
import Derived.Lib.Bytealg
import Derived.Conc.AtomicLaws2
import Derived.Test.YtnhhmieghbfalaaGreatDoorZ11
import Derived.Test.YtnhhmieghbfalaaGreatDoorZ12
set_option linter.unusedSimpArgs false
set_option linter.unusedVariables false
/- Texts of mine, joined, their names in short: EdA Atom EdB REd EdC. -/
section
namespace Go.Proofs.YtnhhmieghbfalaaGreatDoor
open Go.RowKit
open _root_.Go.Proofs.Tryz
def SQ (D : List Int) (P : Int → Nat) (k : Int) : Option Addr := if k ∈ D then some ⟨P k, 0, none⟩ else none
theorem abO (D : List Int) (P : Int → Nat) (k : Int) : (YH D P k).getD (.pointer none) = .pointer (SQ D P k) := by unfold YH SQ; split <;> rfl
theorem YL {D : List Int} {P : Int → Nat} {k : Int} (h : k ∈ D) : SQ D P k = some ⟨P k, 0, none⟩ := if_pos h
theorem acF {D : List Int} {P : Int → Nat} {k : Int} (h : (SQ D P k).isNone = false) : k ∈ D := by
  unfold SQ at h
  split at h
  · assumption
  · cases h
theorem acG {D : List Int} {P : Int → Nat} {k : Int} (h : (SQ D P k).isNone = true) : k ∉ D := by
  unfold SQ at h
  split at h
  · cases h
  · assumption
theorem uX {s : aX} (h : ¬ s.wB = 0) : s.inn = false ∧ s.wB = 1 := by
  unfold aX.wB at *
  cases hi : s.inn <;> simp_all
theorem qK {s : aX} (h : s.wB = 0) : s.inn = true := by
  unfold aX.wB at h
  cases hi : s.inn <;> simp_all
theorem V.akO {w0 w : World} {A B C F : HP} (H : V w0 w (A • B • C • F)) : V w0 w (A • (B • C) • F) := H.of_eq (by rw [eX])
section
variable {w0 w : World} {F : HP} {e p : Nat} {s : aX}
theorem zn (H : V w0 w (gQ e s • F)) : iK prog 22 #[.pointer (some ⟨e, 0, none⟩)] w fun v w' => v = .bool false ∧ w = w' := by
 refine jl func22 ntmps22 ?_
 refine kG O (aI ?_)
 obtain ⟨vC, wF, wG, xC, wH, wI, wJ, wK, vF, rW, rX, rY, rZ, su, sD, sH, sJ, sK, sN, sO, gB, dF, kK, gG⟩ := (H).Gs
 refine aF (cO O (aT (oQ yP O O) (nS O (fun h1 => ?_) (fun h1 => ?_))))
 ·(try simp only [aG] at h1)
  exfalso; first | contradiction | omega
 ·(try simp only [aG] at h1)
  refine bJ (cO O (bJ (dM O (bJ (bg 11 aj O sizeOf41 O (bJ (dQ oL O (gG).get.2 O (bJ (aT (oQ oL O O) (kP O O (iJ O (dO results22 O ?_))))))))))))
  exact ⟨O, O⟩
theorem jY (H : V w0 w (gQ e s • F)) : iK prog 46 #[.pointer (some ⟨e, 0, none⟩)] w fun v w' => v = .int .i64 s.wB ∧ w = w' := by
 unfold aX.wB
 refine jl qF ntmps46 ?_
 refine kG O (aI (bK (bT O (fH O func22 (zn H) ?_))))
 rintro _ _ ⟨rfl, rfl⟩
 refine iU O (yh (aI ?_))
 obtain ⟨vC, wF, wG, xC, wH, wI, wJ, wK, vF, rW, rX, rY, rZ, su, sD, sH, sJ, sK, sN, sO, gB, dF, kK, gG⟩ := (H).Gs
 refine aF (kY O O (bg 16 aj O aN O (dQ bn O (gG).get.2 O (aT (jG O) (iU O (dw O (fun h1 => ?_) (fun h1 => ?_)))))))
 ·(try simp only [aG] at h1)
  refine jE O (aY (aC (dO results46 O ?_)))
  exact ⟨by simp [*], O⟩
 ·(try simp only [aG] at h1)
  refine eG (aS (aZ (jE O (dO results46 O ?_))))
  exact ⟨by simp [*], O⟩
theorem AO {x0 x1 x4 x5 x6 x7 x8 x9 x10 x11 x12 yJ x14 x15 x16 x17 x18 x19 x20 x21 yO x23 x24 x25 yS x27 x28 x29 x30 x31 x32 yZ : Value} {pw pt pm : Nat} {k : Int} {U : Int → List (List jH)} (H : V w0 w (gU e (.cells (x0 :: x1 :: .pointer (some ⟨pw, 0, none⟩) :: .map (some pm) :: x4 :: x5 :: x6 :: x7 :: x8 :: x9 :: x10 :: x11 :: x12 :: yJ :: x14 :: x15 :: x16 :: x17 :: x18 :: x19 :: x20 :: x21 :: yO :: x23 :: x24 :: x25 :: yS :: x27 :: x28 :: x29 :: x30 :: x31 :: x32 :: yZ :: []).toArray 85 (0, 0)) • gU pw (.cells #[.int .i64 k, .map (some pt)] 123 (0, 0)) • DX pm U • F)) : iK prog 111 #[.pointer (some ⟨e, 0, none⟩)] w fun v w' => ∃ p, v = .pointer (some ⟨p, 0, none⟩) ∧
  V w0 w' (lH p (U k) [] 0 • Vg pm U k p • gU e (.cells (x0 :: x1 :: .pointer (some ⟨pw, 0, none⟩) :: .map (some pm) :: x4 :: x5 :: x6 :: x7 :: x8 :: x9 :: x10 :: x11 :: x12 :: yJ :: x14 :: x15 :: x16 :: x17 :: x18 :: x19 :: x20 :: x21 :: yO :: x23 :: x24 :: x25 :: yS :: x27 :: x28 :: x29 :: x30 :: x31 :: x32 :: yZ :: []).toArray 85 (0, 0)) • gU pw (.cells #[.int .i64 k, .map (some pt)] 123 (0, 0)) • F) := by
 refine jl func111 ntmps111 ?_
 refine kG O (aI ?_)
 obtain ⟨D, P, hD1, hD2, HU⟩ := (H.f3).aek
 have SS := HU.drew
 have oD := V.kp (SS.f4.f4.f4.f4)
 refine tH [4, 9, 12, 13] oD O (fM 0 O oD O (jF 1 O oD O (eP 2 O oD 0 aj O aU O (eP 3 O oD 3 aK O sizeOf80 O (iD 4 O oD (fun W hW => jk qO O ((Kp.h hW).f3).get.2 O) (fM 5 O oD O (jF 6 O oD O (eP 7 O oD 0 aj O aU O (eP 8 O oD 2 aK O qc O (iD 9 O oD (fun W hW => jk lZ O ((Kp.h hW).f3).get.2 O) (jF 10 O oD O (eP 11 O oD 0 iF O ah O (iD 12 O oD (fun W hW => jk ay O ((Kp.h hW).f4).get.2 O) (iD 13 O oD (fun W hW => FW (YC ((Kp.h hW)) qO ay zeroValue127 O O) (abO D P k)) (iE 14 O oD (fun _ => eH O) (oH (aZ (aI (bT O (aT (oQ underlying127 O O) (jo O (fun h1 => ?_) (fun h1 => ?_))))))))))))))))))))))
 ·(try simp only [aG] at h1)
  have hnm := acG h1
  refine kQ (fH O func167 (Wp SS) ?_)
  rintro _ w1 ⟨p1, rfl, H1⟩
  refine iU O ?_
  have ajt := H1.drew
  have EY := V.kp (ajt.f5.f5.f5.f5.f5)
  refine tH [4, 9, 12] EY O (fM 0 O EY O (jF 1 O EY O (eP 2 O EY 0 aj O aU O (eP 3 O EY 3 aK O sizeOf80 O (iD 4 O EY (fun W hW => jk qO O ((Kp.h hW).f4).get.2 O) (fM 5 O EY O (jF 6 O EY O (eP 7 O EY 0 aj O aU O (eP 8 O EY 2 aK O qc O (iD 9 O EY (fun W hW => jk lZ O ((Kp.h hW).f4).get.2 O) (jF 10 O EY O (eP 11 O EY 0 iF O ah O (iD 12 O EY (fun W hW => jk ay O ((Kp.h hW).f5).get.2 O) (fM 13 O EY O ?_))))))))))))))
  refine gW 14 O (by kernel_rfl) (FQ ajt.f2 qO ay O O O) ?_
  rintro _ w2 H2
  have Bq := V.kp (H2.f5.f5.f5.f5.f5)
  refine dX Bq (by kernel_rfl) ?_
  refine oH (aZ (bT O (iJ O (dO results111 O ?_))))
  have hu1 : Pv (um P k p1) U (D ++ [k]) = (Pv P U D • lH p1 [] [] 0) := by
   rw [SL, jv, hD2 _ hnm, Kw (P' := P) (U' := U) fun x hx => ⟨zi _ _ (by rintro rfl; exact hnm hx), rfl⟩]
  have HM := V.akO H2.f5.f5.f4.f5.f5
  rw [← hu1, ← YK hnm] at HM
  have HZ := V.ael (k := k) (SN hD1 hnm) (fun k hk => hD2 k fun hm => hk (by simp [hm])) (by simp) HM
  rw [jv] at HZ
  exact ⟨_, O, HZ⟩
 ·(try simp only [aG] at h1)
  have hmem := acF h1
  rw [YL hmem]
  refine gX (bT O (iJ O (dO results111 O ?_)))
  exact ⟨_, O, V.ael hD1 hD2 hmem SS.f4.f4.f4.f4⟩
theorem V.Nr {b p : Nat} {k : Int} {U : Int → List (List jH)} (H : V w0 w (Vg b U k p • lH p (U k) [] 0 • F)) : V w0 w (DX b U • F) := by
  have := H.CQ
  rwa [abI] at this
end
end Go.Proofs.YtnhhmieghbfalaaGreatDoor
end
section
namespace Go.Proofs.YtnhhmieghbfalaaGreatDoor
open Go.RowKit Go.Lib
section
variable {P : Program} {L : List (Nat × Value)} {w0 w : World} {F : HP} {ty : TypeId} {b : Nat} {v d : Int} {t : TypeId}
theorem ag1 {T : Value → World → Prop} {f : FuncId} {args : List Operand} {ts : Array TypeId} {vs : List Value} {fn : Func} {e : Array Value → Sem Value} {v : Value} {w' : World} (ha : MG L args = some vs)
    (hf : P.funcs[f]? = some fn) (hname : (fn.name == "runtime.NumGoroutine") = false) (hb : fn.body.isNone = true) (hn : Extern.findNext fn = none) (he : Extern.find fn = some e) (hr : (e vs.toArray).run P w = .ok v w') (ht : T v w') :
    Dj P L (.call ⟨.value (.func f), args.toArray, ts⟩) ty w T := BP (v := v) (w' := w') (fun ρ hρ _ _ _ _ => by
  have hg : ρ (.func f) = .func (.func f) #[] #[] := hρ _ _ rfl
  have hc := run_callFunc_extern hf hname hb hn he vs.toArray w
  rw [hr] at hc
  simp [execOp, resolve, invoke, evs hρ _ _ ha, hg, Deferred.ofValue]
  exact hc) ht
theorem aaA (hc : w.cell? ⟨b, 0, none⟩ = some (.int .i64 v)) : (Extern.Atomic.loadT (.int .i64) #[.pointer (some ⟨b, 0, none⟩)]).run P w = .ok (.int .i64 v) w := by
  change Sem.run P (do Extern.Atomic.read (.int .i64) (← asAddr (.pointer (some ⟨b, 0, none⟩)))) w = _
  simp [Extern.Atomic.read, asAddr, hc, Result.andThen]
theorem agi {f : FuncId} {args : List Operand} {ts : Array TypeId} {fn : Func} (H : V w0 w (gU b (.cells #[.int .i64 v] t (0, 0)) • F)) (ha : MG L args = some [.pointer (some ⟨b, 0, none⟩), .int .i64 d])
    (hf : P.funcs[f]? = some fn) (hname : (fn.name == "runtime.NumGoroutine") = false) (hb : fn.body.isNone = true) (hn : Extern.findNext fn = none) (he : Extern.find fn = some (Extern.Atomic.update (Op.intArith .add) .i64 true)) :
    Dj P L (.call ⟨.value (.func f), args.toArray, ts⟩) ty w fun u w' => u = .int .i64 (IntKind.i64.wrap (v + d)) ∧ V w0 w' (gU b (.cells #[.int .i64 (IntKind.i64.wrap (v + d))] t (0, 0)) • F) :=
  ag1 ha hf hname hb hn he (Conc.run_add_entry (iP H.get.2 rfl) (OX H.get.2)) ⟨rfl, H.setCell (i := 0) _⟩
theorem aeq {f : FuncId} {args : List Operand} {ts : Array TypeId} {fn : Func} (H : V w0 w (gU b (.cells #[.int .i64 v] t (0, 0)) • F)) (ha : MG L args = some [.pointer (some ⟨b, 0, none⟩)])
    (hf : P.funcs[f]? = some fn) (hname : (fn.name == "runtime.NumGoroutine") = false) (hb : fn.body.isNone = true) (hn : Extern.findNext fn = none) (he : Extern.find fn = some (Extern.Atomic.loadT (.int .i64))) :
    Dj P L (.call ⟨.value (.func f), args.toArray, ts⟩) ty w fun u w' => u = .int .i64 v ∧ w = w' :=
  ag1 ha hf hname hb hn he (aaA (iP H.get.2 rfl)) ⟨rfl, rfl⟩
theorem Ns (H : V w0 w (gU b (.cells #[.int .i64 v] t (0, 0)) • F)) : iK Tryz.prog 47 #[.pointer (some ⟨b, 0, none⟩), .int .i64 d] w fun u w' => u = .int .i64 (IntKind.i64.wrap (v + d)) ∧ V w0 w' (gU b (.cells #[.int .i64 (IntKind.i64.wrap (v + d))] t (0, 0)) • F) := by
  refine nO Tryz.func47 Tryz.ntmps47 ?_
  refine kG O (bT O (dM O (bg 0 Tryz.underlying112 O nC O (cO O (jT (agi H O Tryz.func110 O O (by kernel_rfl) (by kernel_rfl)) ?_)))))
  rintro _ w1 ⟨rfl, H1⟩
  refine iJ O (dO Tryz.results47 O ?_)
  exact ⟨O, H1⟩
theorem yQ (H : V w0 w (gU b (.cells #[.int .i64 v] t (0, 0)) • F)) : iK Tryz.prog 77 #[.pointer (some ⟨b, 0, none⟩)] w fun u w' => u = .int .i64 v ∧ w = w' := by
  refine jl Tryz.func77 Tryz.ntmps77 ?_
  refine kG O (bT O (dM O (bg 0 Tryz.underlying112 O nC O (jT (aeq H O Tryz.func143 O O (by kernel_rfl) (by kernel_rfl)) ?_))))
  rintro _ _ ⟨rfl, rfl⟩
  refine iJ O (dO Tryz.results77 O ?_)
  exact ⟨O, O⟩
end
end Go.Proofs.YtnhhmieghbfalaaGreatDoor
end
section
namespace Go.Proofs.YtnhhmieghbfalaaGreatDoor
open Go.RowKit
open _root_.Go.Proofs.Tryz
section
variable {w0 w : World} {F : HP} {e p h pr : Nat} {s : aX} {hl : List rM} {base most m : Int} {v : Value} {l : List Int}
theorem V.Dz {b : Nat} (H : V w0 w (lV zH b (fun _ => none) • F)) : V w0 w (DX b (fun _ => []) • F) :=
  V.Ky (D := []) (P := fun _ => 0) List.nodup_nil (fun _ _ => rfl) (by rw [abN]; exact H.of_eq (by show _ = (_ • emp • _); rw [YtnhhmieghbfalaaGreatDoor.xE]))
set_option maxHeartbeats 1000000 in
theorem Lc {x0 x2 x3 x5 x6 x7 x8 x9 x10 x11 x12 yJ x14 x15 x16 x17 x18 x19 x20 x21 yO x23 x24 x25 yS x27 x28 x29 x30 x31 x32 yZ : Value} {E : List (List Int)} {a : Nat} (H : V w0 w (gU e (.cells (x0 :: .pointer (some ⟨pr, 0, none⟩) :: x2 :: x3 :: .int .i64 m :: x5 :: x6 :: x7 :: x8 :: x9 :: x10 :: x11 :: x12 :: yJ :: x14 :: x15 :: x16 :: x17 :: x18 :: x19 :: x20 :: x21 :: yO :: x23 :: x24 :: x25 :: yS :: x27 :: x28 :: x29 :: x30 :: x31 :: x32 :: yZ :: []).toArray 85 (0, 0)) • jM h hl base most • F)) (hr : jZ w0 F .i32 v l) (hshort : l.length ≤ 1024) :
  iK prog 64 #[.pointer (some ⟨e, 0, none⟩), .pointer (some ⟨h, 0, none⟩), v] w fun _ w' => ∃ pb pw pt pm ph, V w0 w' (gU e (.cells (.pointer (some ⟨pb, 0, none⟩) :: .pointer (some ⟨pr, 0, none⟩) :: .pointer (some ⟨pw, 0, none⟩) :: .map (some pm) :: .int .i64 m :: .bool false :: .int .i64 0 :: .int .i64 0 :: .int .i64 0 :: .int .i64 0 :: .bool false :: .pointer (some ⟨ph, 0, none⟩) :: x12 :: .bool false :: .bool false :: .int .i64 (-1) :: x16 :: x17 :: x18 :: x19 :: x20 :: x21 :: yO :: x23 :: x24 :: x25 :: yS :: x27 :: x28 :: x29 :: x30 :: x31 :: x32 :: yZ :: []).toArray 85 (0, 0)) •
   jC pb l l.length (-1) • gU pw (.cells #[.int .i64 hl.length, .map (some pt)] 123 (0, 0)) • lV zH pt (fun _ => none) • DX pm (fun _ => []) • jM ph hl base most • jM h hl base most • F) := by
 refine FY func64 ntmps64 ?_
 refine bT O (fH O func130 (O7 H (fun W HW => hr _ (HW.right.right)) hshort) ?_)
 rintro _ w1 ⟨p1, rfl, H1⟩
 refine cO O (xY O O (xY O O (lg O (iU O (bT O (cO O (fH O func63 (Bl H1.f3) ?_)))))))
 rintro _ w2 ⟨q2, rfl, H2⟩
 refine dM O (bg 11 aj O sizeOf41 O (aH (ig 11 H2.f4 sizeOf41) ?_))
 rintro _ w3 H3
 refine uV ?_
 have agj := H3.drew
 have FT := V.kp (agj.f3.right.f3.f3.f3)
 refine tH [6, 17] FT O (fM 0 O FT O (fM 1 O FT O (fM 2 O FT O (jF 3 O FT O (eP 4 O FT 0 aj O aU O (eP 5 O FT 1 aK O sizeOf78 O (iD 6 O FT (fun W hW => jk xg O ((Kp.h hW)).get.2 O) (fM 7 O FT O (fM 13 O FT O (jF 14 O FT O (eP 15 O FT 0 aj O aU O (eP 16 O FT 4 aK O ah O (iD 17 O FT (fun W hW => jk ay O ((Kp.h hW)).get.2 O) ?_)))))))))))))
 refine adt (i := 8) (j := 9) (k := 12) (by kernel_rfl) ?_ ?_ ?_
 ·skip
  refine pK 8 O (by kernel_rfl) (nM (nX O func131 O O) (vX agj.f3)) (iO O) ?_
  rintro _ w4 ⟨rfl, H4⟩
  have ng := V.kp (H4.f4.f4.f4.f4)
  refine dZ ng (fun W hW => (Kp.h hW).right.f3.f3.f3) ?_
  refine FX (i := 9) (j := 12) (by kernel_rfl) ?_ ?_
  ·skip
   refine pK 9 O (by kernel_rfl) (qZ (KJ .i64) H4) (iO O) ?_
   rintro _ w5 ⟨b5, rfl, H5⟩
   have zQ := V.kp (H5.f5.f5.f5.f5.f5)
   refine dZ zQ (fun W hW => (Kp.h hW).right.f4.f4.f4.f4) ?_
   refine iE 10 O zQ (fun _ => iT (zl := [.int .i64 0, .map none]) (pl := [(0, 1), (1, 1)]) [_, _] iF xk O (fun w => by kernel_rfl) O (.on (.on .nil)) O) ?_
   refine FX (i := 11) (j := 12) (by kernel_rfl) ?_ ?_
   ·skip
    refine pK 11 O (by kernel_rfl) (kZ (l := [_, _]) H5 O O) (iO O) ?_
    rintro _ w6 ⟨b6, rfl, H6⟩
    have Am := V.kp (H6.f6.f6.f6.f6.f6.f6)
    refine dZ Am (fun W hW => (Kp.h hW).right.f5.f5.f5.f5.f5) ?_
    refine lC 12 O (qZ (KJ .i64) H6) ?_
    rintro _ w7 ⟨b7, rfl, H7⟩
    have Ak := V.kp (H7.f7.f7.f7.f7.f7.f7.f7)
    refine dZ Ak (fun W hW => (Kp.h hW).right.f6.f6.f6.f6.f6.f6) ?_
    refine iE 18 O Ak (fun _ => iT (zl := [.pointer none, .pointer none, .pointer none, .map none, .int .i64 0, .bool false, .int .i64 0, .int .i64 0, .int .i64 0, .int .i64 0, .bool false]) (pl := [(0, 1), (1, 1), (2, 1), (3, 1), (4, 1), (5, 1), (6, 1), (7, 1), (8, 1), (9, 1), (10, 1)]) [_, _, _, _, _, _, _, _, _, _, _] aK sZ O (fun w => by kernel_rfl) O (.on (.on (.on (.on (.on (.zero (zs := [.bool false]) O (.zero (zs := [.int .i64 0]) O (.zero (zs := [.int .i64 0]) O (.zero (zs := [.int .i64 0]) O (.zero (zs := [.int .i64 0]) O (.zero (zs := [.bool false]) O .nil))))))))))) O) ?_
    refine jF 19 O Ak O (eP 20 O Ak 0 aj O aU O ?_)
    refine gW 21 O (by kernel_rfl) (dR 0 (l' := [_, _, _, _, _, _, _, _, _, _, _, _, _, _, _, _, _, _, _, _, _, _, _, _, _, _, _, _, _, _, _, _, _, _]) (us := [_, _, _, _, _, _, _, _, _, _, _]) H7.f5 aU O O O (aP (aP (aP (aP (aP (aP (aP (aP (aP (aP (aP bW))))))))))) O O) ?_
    rintro _ w8 H8
    have Ip := V.kp (H8.f7.f7.f7.f7.f7.f7.f7)
    refine dX Ip (by kernel_rfl) ?_
    refine oH (aZ (aF (ku O O (kY O O (bg 13 aj O aN O (aH (ig 13 H8 aN) ?_))))))
    rintro _ w9 H9
    refine dM O (bg 14 aj O aN O (aH (ig 14 H9 aN) ?_))
    rintro _ w10 rU
    refine dM O (bg 15 aj O ah O (aH (ig 15 rU ah) ?_))
    rintro _ Ii rE
    refine dJ (nJ (.inr O) results64 ?_)
    have WS := rE.f2
    have Uu := WS.Dz
    exact ⟨_, _, _, _, _, Uu.f5.f6.f3.f6.f6.f7.f7⟩
   ·skip
    refine pK 12 O (by kernel_rfl) (qZ (KJ .i64) H5) (iO O) ?_
    rintro _ O9 ⟨b14, rfl, BJ⟩
    have JD := V.kp (BJ.f6.f6.f6.f6.f6.f6)
    refine dZ JD (fun W hW => (Kp.h hW).right.f5.f5.f5.f5.f5) ?_
    refine lC 11 O (kZ (l := [_, _]) BJ O O) ?_
    rintro _ Ry ⟨b15, rfl, CJ⟩
    have Jf := V.kp (CJ.f7.f7.f7.f7.f7.f7.f7)
    refine dZ Jf (fun W hW => (Kp.h hW).right.f6.f6.f6.f6.f6.f6) ?_
    refine iE 18 O Jf (fun _ => iT (zl := [.pointer none, .pointer none, .pointer none, .map none, .int .i64 0, .bool false, .int .i64 0, .int .i64 0, .int .i64 0, .int .i64 0, .bool false]) (pl := [(0, 1), (1, 1), (2, 1), (3, 1), (4, 1), (5, 1), (6, 1), (7, 1), (8, 1), (9, 1), (10, 1)]) [_, _, _, _, _, _, _, _, _, _, _] aK sZ O (fun w => by kernel_rfl) O (.on (.on (.on (.on (.on (.zero (zs := [.bool false]) O (.zero (zs := [.int .i64 0]) O (.zero (zs := [.int .i64 0]) O (.zero (zs := [.int .i64 0]) O (.zero (zs := [.int .i64 0]) O (.zero (zs := [.bool false]) O .nil))))))))))) O) ?_
    refine jF 19 O Jf O (eP 20 O Jf 0 aj O aU O ?_)
    refine gW 21 O (by kernel_rfl) (dR 0 (l' := [_, _, _, _, _, _, _, _, _, _, _, _, _, _, _, _, _, _, _, _, _, _, _, _, _, _, _, _, _, _, _, _, _, _]) (us := [_, _, _, _, _, _, _, _, _, _, _]) CJ.f5 aU O O O (aP (aP (aP (aP (aP (aP (aP (aP (aP (aP (aP bW))))))))))) O O) ?_
    rintro _ w16 yG
    have GL := V.kp (yG.f7.f7.f7.f7.f7.f7.f7)
    refine dX GL (by kernel_rfl) ?_
    refine oH (aZ (aF (ku O O (kY O O (bg 13 aj O aN O (aH (ig 13 yG aN) ?_))))))
    rintro _ ZI DL
    refine dM O (bg 14 aj O aN O (aH (ig 14 DL aN) ?_))
    rintro _ U5 DN
    refine dM O (bg 15 aj O ah O (aH (ig 15 DN ah) ?_))
    rintro _ X9 Df
    refine dJ (nJ (.inr O) results64 ?_)
    have aer := Df.f3
    have aaB := aer.Dz
    exact ⟨_, _, _, _, _, aaB.f5.f6.f3.f6.f6.f7.f7⟩
  ·skip
   refine pK 12 O (by kernel_rfl) (qZ (KJ .i64) H4) (iO O) ?_
   rintro _ w22 ⟨b22, rfl, FI⟩
   have EX := V.kp (FI.f5.f5.f5.f5.f5)
   refine dZ EX (fun W hW => (Kp.h hW).right.f4.f4.f4.f4) ?_
   refine lC 9 O (qZ (KJ .i64) FI) ?_
   rintro _ Yb ⟨b23, rfl, BM⟩
   have AB := V.kp (BM.f6.f6.f6.f6.f6.f6)
   refine dZ AB (fun W hW => (Kp.h hW).right.f5.f5.f5.f5.f5) ?_
   refine iE 10 O AB (fun _ => iT (zl := [.int .i64 0, .map none]) (pl := [(0, 1), (1, 1)]) [_, _] iF xk O (fun w => by kernel_rfl) O (.on (.on .nil)) O) ?_
   refine lC 11 O (kZ (l := [_, _]) BM O O) ?_
   rintro _ w24 ⟨b24, rfl, Hw⟩
   have GY := V.kp (Hw.f7.f7.f7.f7.f7.f7.f7)
   refine dZ GY (fun W hW => (Kp.h hW).right.f6.f6.f6.f6.f6.f6) ?_
   refine iE 18 O GY (fun _ => iT (zl := [.pointer none, .pointer none, .pointer none, .map none, .int .i64 0, .bool false, .int .i64 0, .int .i64 0, .int .i64 0, .int .i64 0, .bool false]) (pl := [(0, 1), (1, 1), (2, 1), (3, 1), (4, 1), (5, 1), (6, 1), (7, 1), (8, 1), (9, 1), (10, 1)]) [_, _, _, _, _, _, _, _, _, _, _] aK sZ O (fun w => by kernel_rfl) O (.on (.on (.on (.on (.on (.zero (zs := [.bool false]) O (.zero (zs := [.int .i64 0]) O (.zero (zs := [.int .i64 0]) O (.zero (zs := [.int .i64 0]) O (.zero (zs := [.int .i64 0]) O (.zero (zs := [.bool false]) O .nil))))))))))) O) ?_
   refine jF 19 O GY O (eP 20 O GY 0 aj O aU O ?_)
   refine gW 21 O (by kernel_rfl) (dR 0 (l' := [_, _, _, _, _, _, _, _, _, _, _, _, _, _, _, _, _, _, _, _, _, _, _, _, _, _, _, _, _, _, _, _, _, _]) (us := [_, _, _, _, _, _, _, _, _, _, _]) Hw.f5 aU O O O (aP (aP (aP (aP (aP (aP (aP (aP (aP (aP (aP bW))))))))))) O O) ?_
   rintro _ w25 Jo
   have Cc := V.kp (Jo.f7.f7.f7.f7.f7.f7.f7)
   refine dX Cc (by kernel_rfl) ?_
   refine oH (aZ (aF (ku O O (kY O O (bg 13 aj O aN O (aH (ig 13 Jo aN) ?_))))))
   rintro _ w26 FK
   refine dM O (bg 14 aj O aN O (aH (ig 14 FK aN) ?_))
   rintro _ w27 KT
   refine dM O (bg 15 aj O ah O (aH (ig 15 KT ah) ?_))
   rintro _ w28 Rz
   refine dJ (nJ (.inr O) results64 ?_)
   have ah0 := Rz.f4
   have ah1 := ah0.Dz
   exact ⟨_, _, _, _, _, ah1.f5.f6.f3.f6.f6.f7.f7⟩
 ·skip
  refine pK 9 O (by kernel_rfl) (qZ (KJ .i64) agj) (iO O) ?_
  rintro _ w31 ⟨b31, rfl, TW⟩
  have SV := V.kp (TW.f4.right.f4.f4.f4.f4)
  refine dZ SV (fun W hW => (Kp.h hW).right.f3.f3.f3) ?_
  refine FX (i := 8) (j := 12) (by kernel_rfl) ?_ ?_
  ·skip
   refine pK 8 O (by kernel_rfl) (nM (nX O func131 O O) (vX TW.f4)) (iO O) ?_
   rintro _ w32 ⟨rfl, TY⟩
   have abP := V.kp (TY.f5.f5.f5.f5.f5)
   refine dZ abP (fun W hW => (Kp.h hW).right.f4.f4.f4.f4) ?_
   refine iE 10 O abP (fun _ => iT (zl := [.int .i64 0, .map none]) (pl := [(0, 1), (1, 1)]) [_, _] iF xk O (fun w => by kernel_rfl) O (.on (.on .nil)) O) ?_
   refine FX (i := 11) (j := 12) (by kernel_rfl) ?_ ?_
   ·skip
    refine pK 11 O (by kernel_rfl) (kZ (l := [_, _]) TY O O) (iO O) ?_
    rintro _ w33 ⟨b33, rfl, ZK⟩
    have abQ := V.kp (ZK.f6.f6.f6.f6.f6.f6)
    refine dZ abQ (fun W hW => (Kp.h hW).right.f5.f5.f5.f5.f5) ?_
    refine lC 12 O (qZ (KJ .i64) ZK) ?_
    rintro _ w34 ⟨b34, rfl, Yy⟩
    have Ld := V.kp (Yy.f7.f7.f7.f7.f7.f7.f7)
    refine dZ Ld (fun W hW => (Kp.h hW).right.f6.f6.f6.f6.f6.f6) ?_
    refine iE 18 O Ld (fun _ => iT (zl := [.pointer none, .pointer none, .pointer none, .map none, .int .i64 0, .bool false, .int .i64 0, .int .i64 0, .int .i64 0, .int .i64 0, .bool false]) (pl := [(0, 1), (1, 1), (2, 1), (3, 1), (4, 1), (5, 1), (6, 1), (7, 1), (8, 1), (9, 1), (10, 1)]) [_, _, _, _, _, _, _, _, _, _, _] aK sZ O (fun w => by kernel_rfl) O (.on (.on (.on (.on (.on (.zero (zs := [.bool false]) O (.zero (zs := [.int .i64 0]) O (.zero (zs := [.int .i64 0]) O (.zero (zs := [.int .i64 0]) O (.zero (zs := [.int .i64 0]) O (.zero (zs := [.bool false]) O .nil))))))))))) O) ?_
    refine jF 19 O Ld O (eP 20 O Ld 0 aj O aU O ?_)
    refine gW 21 O (by kernel_rfl) (dR 0 (l' := [_, _, _, _, _, _, _, _, _, _, _, _, _, _, _, _, _, _, _, _, _, _, _, _, _, _, _, _, _, _, _, _, _, _]) (us := [_, _, _, _, _, _, _, _, _, _, _]) Yy.f5 aU O O O (aP (aP (aP (aP (aP (aP (aP (aP (aP (aP (aP bW))))))))))) O O) ?_
    rintro _ w35 H35
    have SX := V.kp (H35.f7.f7.f7.f7.f7.f7.f7)
    refine dX SX (by kernel_rfl) ?_
    refine oH (aZ (aF (ku O O (kY O O (bg 13 aj O aN O (aH (ig 13 H35 aN) ?_))))))
    rintro _ w36 H36
    refine dM O (bg 14 aj O aN O (aH (ig 14 H36 aN) ?_))
    rintro _ w37 H37
    refine dM O (bg 15 aj O ah O (aH (ig 15 H37 ah) ?_))
    rintro _ w38 Ve
    refine dJ (nJ (.inr O) results64 ?_)
    have akP := Ve.f2
    have akQ := akP.Dz
    exact ⟨_, _, _, _, _, akQ.f4.f6.f3.f6.f6.f7.f7⟩
   ·skip
    refine pK 12 O (by kernel_rfl) (qZ (KJ .i64) TY) (iO O) ?_
    rintro _ w41 ⟨b41, rfl, H41⟩
    have Vj := V.kp (H41.f6.f6.f6.f6.f6.f6)
    refine dZ Vj (fun W hW => (Kp.h hW).right.f5.f5.f5.f5.f5) ?_
    refine lC 11 O (kZ (l := [_, _]) H41 O O) ?_
    rintro _ w42 ⟨b42, rfl, H42⟩
    have Vk := V.kp (H42.f7.f7.f7.f7.f7.f7.f7)
    refine dZ Vk (fun W hW => (Kp.h hW).right.f6.f6.f6.f6.f6.f6) ?_
    refine iE 18 O Vk (fun _ => iT (zl := [.pointer none, .pointer none, .pointer none, .map none, .int .i64 0, .bool false, .int .i64 0, .int .i64 0, .int .i64 0, .int .i64 0, .bool false]) (pl := [(0, 1), (1, 1), (2, 1), (3, 1), (4, 1), (5, 1), (6, 1), (7, 1), (8, 1), (9, 1), (10, 1)]) [_, _, _, _, _, _, _, _, _, _, _] aK sZ O (fun w => by kernel_rfl) O (.on (.on (.on (.on (.on (.zero (zs := [.bool false]) O (.zero (zs := [.int .i64 0]) O (.zero (zs := [.int .i64 0]) O (.zero (zs := [.int .i64 0]) O (.zero (zs := [.int .i64 0]) O (.zero (zs := [.bool false]) O .nil))))))))))) O) ?_
    refine jF 19 O Vk O (eP 20 O Vk 0 aj O aU O ?_)
    refine gW 21 O (by kernel_rfl) (dR 0 (l' := [_, _, _, _, _, _, _, _, _, _, _, _, _, _, _, _, _, _, _, _, _, _, _, _, _, _, _, _, _, _, _, _, _, _]) (us := [_, _, _, _, _, _, _, _, _, _, _]) H42.f5 aU O O O (aP (aP (aP (aP (aP (aP (aP (aP (aP (aP (aP bW))))))))))) O O) ?_
    rintro _ w43 H43
    have aes := V.kp (H43.f7.f7.f7.f7.f7.f7.f7)
    refine dX aes (by kernel_rfl) ?_
    refine oH (aZ (aF (ku O O (kY O O (bg 13 aj O aN O (aH (ig 13 H43 aN) ?_))))))
    rintro _ w44 ZN
    refine dM O (bg 14 aj O aN O (aH (ig 14 ZN aN) ?_))
    rintro _ w45 Ut
    refine dM O (bg 15 aj O ah O (aH (ig 15 Ut ah) ?_))
    rintro _ w46 ZO
    refine dJ (nJ (.inr O) results64 ?_)
    have akR := ZO.f3
    have akS := akR.Dz
    exact ⟨_, _, _, _, _, akS.f4.f6.f3.f6.f6.f7.f7⟩
  ·skip
   refine pK 12 O (by kernel_rfl) (qZ (KJ .i64) TW) (iO O) ?_
   rintro _ w49 ⟨b49, rfl, H49⟩
   have aju := V.kp (H49.f5.right.f5.f5.f5.f5.f5)
   refine dZ aju (fun W hW => (Kp.h hW).right.f4.f4.f4.f4) ?_
   refine lC 8 O (qW O func131 (vX H49.f5)) ?_
   rintro _ w50 ⟨rfl, H50⟩
   have ag2 := V.kp (H50.f6.f6.f6.f6.f6.f6)
   refine dZ ag2 (fun W hW => (Kp.h hW).right.f5.f5.f5.f5.f5) ?_
   refine iE 10 O ag2 (fun _ => iT (zl := [.int .i64 0, .map none]) (pl := [(0, 1), (1, 1)]) [_, _] iF xk O (fun w => by kernel_rfl) O (.on (.on .nil)) O) ?_
   refine lC 11 O (kZ (l := [_, _]) H50 O O) ?_
   rintro _ w51 ⟨b51, rfl, H51⟩
   have abR := V.kp (H51.f7.f7.f7.f7.f7.f7.f7)
   refine dZ abR (fun W hW => (Kp.h hW).right.f6.f6.f6.f6.f6.f6) ?_
   refine iE 18 O abR (fun _ => iT (zl := [.pointer none, .pointer none, .pointer none, .map none, .int .i64 0, .bool false, .int .i64 0, .int .i64 0, .int .i64 0, .int .i64 0, .bool false]) (pl := [(0, 1), (1, 1), (2, 1), (3, 1), (4, 1), (5, 1), (6, 1), (7, 1), (8, 1), (9, 1), (10, 1)]) [_, _, _, _, _, _, _, _, _, _, _] aK sZ O (fun w => by kernel_rfl) O (.on (.on (.on (.on (.on (.zero (zs := [.bool false]) O (.zero (zs := [.int .i64 0]) O (.zero (zs := [.int .i64 0]) O (.zero (zs := [.int .i64 0]) O (.zero (zs := [.int .i64 0]) O (.zero (zs := [.bool false]) O .nil))))))))))) O) ?_
   refine jF 19 O abR O (eP 20 O abR 0 aj O aU O ?_)
   refine gW 21 O (by kernel_rfl) (dR 0 (l' := [_, _, _, _, _, _, _, _, _, _, _, _, _, _, _, _, _, _, _, _, _, _, _, _, _, _, _, _, _, _, _, _, _, _]) (us := [_, _, _, _, _, _, _, _, _, _, _]) H51.f5 aU O O O (aP (aP (aP (aP (aP (aP (aP (aP (aP (aP (aP bW))))))))))) O O) ?_
   rintro _ w52 H52
   have ajv := V.kp (H52.f7.f7.f7.f7.f7.f7.f7)
   refine dX ajv (by kernel_rfl) ?_
   refine oH (aZ (aF (ku O O (kY O O (bg 13 aj O aN O (aH (ig 13 H52 aN) ?_))))))
   rintro _ w53 H53
   refine dM O (bg 14 aj O aN O (aH (ig 14 H53 aN) ?_))
   rintro _ w54 H54
   refine dM O (bg 15 aj O ah O (aH (ig 15 H54 ah) ?_))
   rintro _ w55 H55
   refine dJ (nJ (.inr O) results64 ?_)
   have akT := H55.f4
   have akU := akT.Dz
   exact ⟨_, _, _, _, _, akU.f4.f6.f3.f6.f6.f7.f7⟩
 ·skip
  refine pK 12 O (by kernel_rfl) (qZ (KJ .i64) agj) (iO O) ?_
  rintro _ w58 ⟨b58, rfl, H58⟩
  have ajw := V.kp (H58.f4.right.f4.f4.f4.f4)
  refine dZ ajw (fun W hW => (Kp.h hW).right.f3.f3.f3) ?_
  refine FX (i := 8) (j := 9) (by kernel_rfl) ?_ ?_
  ·skip
   refine pK 8 O (by kernel_rfl) (nM (nX O func131 O O) (vX H58.f4)) (iO O) ?_
   rintro _ w59 ⟨rfl, H59⟩
   have ajx := V.kp (H59.f5.f5.f5.f5.f5)
   refine dZ ajx (fun W hW => (Kp.h hW).right.f4.f4.f4.f4) ?_
   refine lC 9 O (qZ (KJ .i64) H59) ?_
   rintro _ w60 ⟨b60, rfl, H60⟩
   have ag3 := V.kp (H60.f6.f6.f6.f6.f6.f6)
   refine dZ ag3 (fun W hW => (Kp.h hW).right.f5.f5.f5.f5.f5) ?_
   refine iE 10 O ag3 (fun _ => iT (zl := [.int .i64 0, .map none]) (pl := [(0, 1), (1, 1)]) [_, _] iF xk O (fun w => by kernel_rfl) O (.on (.on .nil)) O) ?_
   refine lC 11 O (kZ (l := [_, _]) H60 O O) ?_
   rintro _ w61 ⟨b61, rfl, H61⟩
   have abS := V.kp (H61.f7.f7.f7.f7.f7.f7.f7)
   refine dZ abS (fun W hW => (Kp.h hW).right.f6.f6.f6.f6.f6.f6) ?_
   refine iE 18 O abS (fun _ => iT (zl := [.pointer none, .pointer none, .pointer none, .map none, .int .i64 0, .bool false, .int .i64 0, .int .i64 0, .int .i64 0, .int .i64 0, .bool false]) (pl := [(0, 1), (1, 1), (2, 1), (3, 1), (4, 1), (5, 1), (6, 1), (7, 1), (8, 1), (9, 1), (10, 1)]) [_, _, _, _, _, _, _, _, _, _, _] aK sZ O (fun w => by kernel_rfl) O (.on (.on (.on (.on (.on (.zero (zs := [.bool false]) O (.zero (zs := [.int .i64 0]) O (.zero (zs := [.int .i64 0]) O (.zero (zs := [.int .i64 0]) O (.zero (zs := [.int .i64 0]) O (.zero (zs := [.bool false]) O .nil))))))))))) O) ?_
   refine jF 19 O abS O (eP 20 O abS 0 aj O aU O ?_)
   refine gW 21 O (by kernel_rfl) (dR 0 (l' := [_, _, _, _, _, _, _, _, _, _, _, _, _, _, _, _, _, _, _, _, _, _, _, _, _, _, _, _, _, _, _, _, _, _]) (us := [_, _, _, _, _, _, _, _, _, _, _]) H61.f5 aU O O O (aP (aP (aP (aP (aP (aP (aP (aP (aP (aP (aP bW))))))))))) O O) ?_
   rintro _ w62 H62
   have ajy := V.kp (H62.f7.f7.f7.f7.f7.f7.f7)
   refine dX ajy (by kernel_rfl) ?_
   refine oH (aZ (aF (ku O O (kY O O (bg 13 aj O aN O (aH (ig 13 H62 aN) ?_))))))
   rintro _ w63 H63
   refine dM O (bg 14 aj O aN O (aH (ig 14 H63 aN) ?_))
   rintro _ w64 H64
   refine dM O (bg 15 aj O ah O (aH (ig 15 H64 ah) ?_))
   rintro _ w65 H65
   refine dJ (nJ (.inr O) results64 ?_)
   have akV := H65.f5
   have akW := akV.Dz
   exact ⟨_, _, _, _, _, akW.f5.f6.f3.f6.f6.f7.f7⟩
  ·skip
   refine pK 9 O (by kernel_rfl) (qZ (KJ .i64) H58) (iO O) ?_
   rintro _ w68 ⟨b68, rfl, H68⟩
   have ajz := V.kp (H68.f5.right.f5.f5.f5.f5.f5)
   refine dZ ajz (fun W hW => (Kp.h hW).right.f4.f4.f4.f4) ?_
   refine lC 8 O (qW O func131 (vX H68.f5)) ?_
   rintro _ w69 ⟨rfl, H69⟩
   have ag4 := V.kp (H69.f6.f6.f6.f6.f6.f6)
   refine dZ ag4 (fun W hW => (Kp.h hW).right.f5.f5.f5.f5.f5) ?_
   refine iE 10 O ag4 (fun _ => iT (zl := [.int .i64 0, .map none]) (pl := [(0, 1), (1, 1)]) [_, _] iF xk O (fun w => by kernel_rfl) O (.on (.on .nil)) O) ?_
   refine lC 11 O (kZ (l := [_, _]) H69 O O) ?_
   rintro _ w70 ⟨b70, rfl, H70⟩
   have abT := V.kp (H70.f7.f7.f7.f7.f7.f7.f7)
   refine dZ abT (fun W hW => (Kp.h hW).right.f6.f6.f6.f6.f6.f6) ?_
   refine iE 18 O abT (fun _ => iT (zl := [.pointer none, .pointer none, .pointer none, .map none, .int .i64 0, .bool false, .int .i64 0, .int .i64 0, .int .i64 0, .int .i64 0, .bool false]) (pl := [(0, 1), (1, 1), (2, 1), (3, 1), (4, 1), (5, 1), (6, 1), (7, 1), (8, 1), (9, 1), (10, 1)]) [_, _, _, _, _, _, _, _, _, _, _] aK sZ O (fun w => by kernel_rfl) O (.on (.on (.on (.on (.on (.zero (zs := [.bool false]) O (.zero (zs := [.int .i64 0]) O (.zero (zs := [.int .i64 0]) O (.zero (zs := [.int .i64 0]) O (.zero (zs := [.int .i64 0]) O (.zero (zs := [.bool false]) O .nil))))))))))) O) ?_
   refine jF 19 O abT O (eP 20 O abT 0 aj O aU O ?_)
   refine gW 21 O (by kernel_rfl) (dR 0 (l' := [_, _, _, _, _, _, _, _, _, _, _, _, _, _, _, _, _, _, _, _, _, _, _, _, _, _, _, _, _, _, _, _, _, _]) (us := [_, _, _, _, _, _, _, _, _, _, _]) H70.f5 aU O O O (aP (aP (aP (aP (aP (aP (aP (aP (aP (aP (aP bW))))))))))) O O) ?_
   rintro _ w71 H71
   have ajA := V.kp (H71.f7.f7.f7.f7.f7.f7.f7)
   refine dX ajA (by kernel_rfl) ?_
   refine oH (aZ (aF (ku O O (kY O O (bg 13 aj O aN O (aH (ig 13 H71 aN) ?_))))))
   rintro _ w72 H72
   refine dM O (bg 14 aj O aN O (aH (ig 14 H72 aN) ?_))
   rintro _ w73 H73
   refine dM O (bg 15 aj O ah O (aH (ig 15 H73 ah) ?_))
   rintro _ w74 H74
   refine dJ (nJ (.inr O) results64 ?_)
   have akX := H74.f5
   have akY := akX.Dz
   exact ⟨_, _, _, _, _, akY.f4.f6.f3.f6.f6.f7.f7⟩
theorem V.LY {c : rV} {u : List Value} (H : V w0 w F) (hu : (u.all fun x => x.oneCell') = true) : V w0 w (Dy false c u • F) := by
  unfold Dy
  rw [if_neg (by decide)]
  exact H.qY hu
theorem GZ {inn : Bool} {c : rV} {u : List Value} (H : V w0 w (Dy inn c u • F)) : (u.all fun x => x.oneCell') = true := by
  unfold Dy at H
  cases inn with
  | true =>
    rw [if_pos rfl] at H
    obtain ⟨⟨pb, pr, pw, pt, pm⟩, H⟩ := H.sS
    obtain ⟨h, _⟩ := H.flat.fact
    rw [h]; rfl
  | false =>
    rw [if_neg (by decide)] at H
    exact H.fact.1
theorem V.ah2 {pb pr pw pt pm : Nat} {c : rV} (H : V w0 w (jC pb c.L c.pt c.mark • iG pr c.E c.at_ • gU pw (.cells #[.int .i64 c.place, .map (some pt)] 123 (0, 0)) • lV zH pt (zI c.tx) • DX pm c.un • F)) : V w0 w (Dy true c (YI pb pr pw pm c) • F) := by
  unfold Dy
  rw [if_pos rfl]
  exact V.lK (pb, pr, pw, pt, pm) (V.deep (V.qY rfl (H.of_eq (by unfold aaz; simp only [eX]))))
theorem V.was {c : rV} {u : List Value} (H : V w0 w (Dy true c u • F)) : ∃ pb pr pw pt pm, u = YI pb pr pw pm c ∧ V w0 w (jC pb c.L c.pt c.mark • iG pr c.E c.at_ • gU pw (.cells #[.int .i64 c.place, .map (some pt)] 123 (0, 0)) • lV zH pt (zI c.tx) • DX pm c.un • F) := by
  unfold Dy at H
  rw [if_pos rfl] at H
  obtain ⟨⟨pb, pr, pw, pt, pm⟩, H⟩ := H.sS
  obtain ⟨h, H⟩ := H.flat.fact
  exact ⟨pb, pr, pw, pt, pm, h, H.of_eq (by unfold aaz; simp only [eX])⟩
theorem V.SY {pb pr pw pt pm ph bl : Nat} {u0 u1 u2 u3 u4 u5 u6 u7 u8 u9 ua : Value} (h1 : ru s) (hp : s.put = []) (H : V w0 w (gU e (.cells (.pointer (some ⟨pb, 0, none⟩) :: .pointer (some ⟨pr, 0, none⟩) :: .pointer (some ⟨pw, 0, none⟩) :: .map (some pm) :: .int .i64 s.c.mode :: .bool s.c.over :: .int .i64 s.c.last :: .int .i64 s.c.fr :: .int .i64 s.c.to :: .int .i64 s.c.res :: .bool s.c.run :: .pointer (some ⟨ph, 0, none⟩) :: .pointer (some ⟨bl, 0, none⟩) :: .bool s.given :: .bool s.minus :: .int .i64 s.arg :: .bool s.inn :: u0 :: u1 :: u2 :: u3 :: u4 :: u5 :: u6 :: u7 :: u8 :: u9 :: ua :: .int .i64 s.cls :: .bool s.lS :: .bool s.jc :: .bool s.argues :: .bool s.whole :: .slice none 0 0 :: []).toArray 85 (0, 0)) • jC pb s.c.L s.c.pt s.c.mark • iG pr s.c.E s.c.at_ • gU pw (.cells #[.int .i64 s.c.place, .map (some pt)] 123 (0, 0)) • lV zH pt (zI s.c.tx) • DX pm s.c.un • jM ph s.hl s.base s.most • gU bl (.cells #[.int .i64 s.nR] 112 (0, 0)) • Dy s.inn s.was [u0, u1, u2, u3, u4, u5, u6, u7, u8, u9, ua] • F)) : V w0 w (gQ e s • F) := by
  refine V.iC (pb := pb) (pr := pr) (pw := pw) (pt := pt) (pm := pm) (ph := ph) (bl := bl) (u0 := u0) (u1 := u1) (u2 := u2) (u3 := u3) (u4 := u4) (u5 := u5) (u6 := u6) (u7 := u7) (u8 := u8) (u9 := u9) (ua := ua) (pv := .slice none 0 0) (es := []) h1 (by rw [hp]; rfl) ?_
  rw [hp]
  exact (H.zA none).of_eq (by unfold Qv; ac_rfl)
theorem V.aaC {pb pr pw pt pm ph bl : Nat} {u0 u1 u2 u3 u4 u5 u6 u7 u8 u9 ua : Value} (h1 : ru s) (hp : s.put = []) (hi : s.inn = false) (H : V w0 w (gU e (.cells (.pointer (some ⟨pb, 0, none⟩) :: .pointer (some ⟨pr, 0, none⟩) :: .pointer (some ⟨pw, 0, none⟩) :: .map (some pm) :: .int .i64 s.c.mode :: .bool s.c.over :: .int .i64 s.c.last :: .int .i64 s.c.fr :: .int .i64 s.c.to :: .int .i64 s.c.res :: .bool s.c.run :: .pointer (some ⟨ph, 0, none⟩) :: .pointer (some ⟨bl, 0, none⟩) :: .bool s.given :: .bool s.minus :: .int .i64 s.arg :: .bool false :: u0 :: u1 :: u2 :: u3 :: u4 :: u5 :: u6 :: u7 :: u8 :: u9 :: ua :: .int .i64 s.cls :: .bool s.lS :: .bool s.jc :: .bool s.argues :: .bool s.whole :: .slice none 0 0 :: []).toArray 85 (0, 0)) • jC pb s.c.L s.c.pt s.c.mark • iG pr s.c.E s.c.at_ • gU pw (.cells #[.int .i64 s.c.place, .map (some pt)] 123 (0, 0)) • lV zH pt (zI s.c.tx) • DX pm s.c.un • jM ph s.hl s.base s.most • gU bl (.cells #[.int .i64 s.nR] 112 (0, 0)) • F)) (hu : ([u0, u1, u2, u3, u4, u5, u6, u7, u8, u9, ua].all fun x => x.oneCell') = true := by rfl) : V w0 w (gQ e s • F) := by
  refine V.SY (pb := pb) (pr := pr) (pw := pw) (pt := pt) (pm := pm) (ph := ph) (bl := bl) (u0 := u0) (u1 := u1) (u2 := u2) (u3 := u3) (u4 := u4) (u5 := u5) (u6 := u6) (u7 := u7) (u8 := u8) (u9 := u9) (ua := ua) h1 hp ?_
  rw [hi]
  exact (H.LY (c := s.was) (u := [u0, u1, u2, u3, u4, u5, u6, u7, u8, u9, ua]) hu).of_eq (by ac_rfl)
theorem V.aeu {pb pr pw pt pm ph bl : Nat} {u0 u1 u2 u3 u4 u5 u6 u7 u8 u9 ua : Value} {pv : Value} {es : List gJ} (h1 : ru s) (h2 : es.map gJ.says = s.put) (H : V w0 w (Qv pv es • gU e (.cells (.pointer (some ⟨pb, 0, none⟩) :: .pointer (some ⟨pr, 0, none⟩) :: .pointer (some ⟨pw, 0, none⟩) :: .map (some pm) :: .int .i64 s.c.mode :: .bool s.c.over :: .int .i64 s.c.last :: .int .i64 s.c.fr :: .int .i64 s.c.to :: .int .i64 s.c.res :: .bool s.c.run :: .pointer (some ⟨ph, 0, none⟩) :: .pointer (some ⟨bl, 0, none⟩) :: .bool s.given :: .bool s.minus :: .int .i64 s.arg :: .bool s.inn :: u0 :: u1 :: u2 :: u3 :: u4 :: u5 :: u6 :: u7 :: u8 :: u9 :: ua :: .int .i64 s.cls :: .bool s.lS :: .bool s.jc :: .bool s.argues :: .bool s.whole :: pv :: []).toArray 85 (0, 0)) • jC pb s.c.L s.c.pt s.c.mark • iG pr s.c.E s.c.at_ • gU pw (.cells #[.int .i64 s.c.place, .map (some pt)] 123 (0, 0)) • lV zH pt (zI s.c.tx) • DX pm s.c.un • jM ph s.hl s.base s.most • gU bl (.cells #[.int .i64 s.nR] 112 (0, 0)) • Dy s.inn s.was [u0, u1, u2, u3, u4, u5, u6, u7, u8, u9, ua] • F)) : V w0 w (gQ e s • F) := by
  refine V.iC (pb := pb) (pr := pr) (pw := pw) (pt := pt) (pm := pm) (ph := ph) (bl := bl) (u0 := u0) (u1 := u1) (u2 := u2) (u3 := u3) (u4 := u4) (u5 := u5) (u6 := u6) (u7 := u7) (u8 := u8) (u9 := u9) (ua := ua) (pv := pv) (es := es) h1 h2 ?_
  have hl : s.put.length = es.length := by rw [← h2]; simp
  rw [hl]
  exact H.of_eq (by unfold Qv; ac_rfl)
theorem aev : iH [] [] = 0 := rfl
theorem YM (hl : List rM) (l : List Int) (E : List (List Int)) (a : Nat) (m : Int) : WR hl (rV.fresh l E a hl.length m) := ⟨by simp [rV.fresh], by simp [rV.fresh], by simp [rV.fresh]⟩
theorem aew (hl : List rM) (base most : Int) : ru (aX.new hl base most) :=
  ⟨YM _ _ _ _ _, by simp [aX.new], by simp [aX.new], by simp [aX.new], by simp [aX.new, aX.here, rV.fresh, iH], by simp [aX.new, rV.fresh]⟩
theorem S9 (H : V w0 w (jM h hl base most • F)) : iK prog 17 #[.pointer (some ⟨h, 0, none⟩)] w fun v w' => ∃ e, v = .tuple #[.pointer (some ⟨e, 0, none⟩), .int .i64 0] ∧ V w0 w' (gQ e (aX.new hl base most) • jM h hl base most • F) := by
  refine jl func17 ntmps17 ?_
  refine kQ (lg O (vI O (bT O (fH O func63 (Bl H) ?_))))
  rintro _ w1 ⟨q1, rfl, H1⟩
  refine aT (oQ oL O O) (iR (Kq O (fun h1 => ?_)))
  (try simp only [aG] at h1)
  refine gX (kQ (aT (iT (zl := [.int .i64 0]) (pl := [(0, 0), (0, 0), (0, 1)]) [_] underlying112 zeroValue112 O (fun w => by kernel_rfl) O (.zero (zs := []) O (.zero (zs := []) O (.zero (zs := [.int .i64 0]) O .nil))) O) (jT (kZ (l := [_]) H1 O O) ?_)))
  rintro _ w2 ⟨b2, rfl, H2⟩
  refine aT (iT (zl := [.pointer none, .pointer none, .pointer none, .map none, .int .i64 0, .bool false, .int .i64 0, .int .i64 0, .int .i64 0, .int .i64 0, .bool false, .pointer none, .pointer none, .bool false, .bool false, .int .i64 0, .bool false, .pointer none, .pointer none, .pointer none, .map none, .int .i64 0, .bool false, .int .i64 0, .int .i64 0, .int .i64 0, .int .i64 0, .bool false, .int .i64 0, .bool false, .bool false, .bool false, .bool false, .slice none 0 0]) (pl := [(0, 11), (11, 1), (12, 1), (13, 1), (14, 1), (15, 1), (16, 1), (17, 11), (28, 1), (29, 1), (30, 1), (31, 1), (32, 1), (33, 1)]) [_, _, _, _, _, _, _, _, _, _, _, _, _, _, _, _, _, _, _, _, _, _, _, _, _, _, _, _, _, _, _, _, _, _] aj zeroValue85 O (fun w => by kernel_rfl) O (.zero (zs := [.pointer none, .pointer none, .pointer none, .map none, .int .i64 0, .bool false, .int .i64 0, .int .i64 0, .int .i64 0, .int .i64 0, .bool false]) O (.zero (zs := [.pointer none]) O (.on (.zero (zs := [.bool false]) O (.zero (zs := [.bool false]) O (.zero (zs := [.int .i64 0]) O (.zero (zs := [.bool false]) O (.zero (zs := [.pointer none, .pointer none, .pointer none, .map none, .int .i64 0, .bool false, .int .i64 0, .int .i64 0, .int .i64 0, .int .i64 0, .bool false]) O (.zero (zs := [.int .i64 0]) O (.zero (zs := [.bool false]) O (.zero (zs := [.bool false]) O (.zero (zs := [.bool false]) O (.zero (zs := [.bool false]) O (.zero (zs := [.slice none 0 0]) O .nil)))))))))))))) O) ?_
  refine jT (kZ (l := [_, _, _, _, _, _, _, _, _, _, _, _, _, _, _, _, _, _, _, _, _, _, _, _, _, _, _, _, _, _, _, _, _, _]) H2 O O) ?_
  rintro _ w3 ⟨b3, rfl, H3⟩
  refine iU O (bT O (fH O func71 (Wi H3) ?_))
  rintro _ w4 ⟨p4, rfl, H4⟩
  refine dM O (bg 0 aj O aU O (bg 1 aK O sizeOf78 O (aH (ig 1 H4.f2 sizeOf78) ?_)))
  rintro _ w5 H5
  refine qG O (cO O (fH O func64 (Lc (E := []) (a := 0) H5.f4.right.f3.f3.f4.f4 (l := []) (fun W _ => mP.nil W _ none 0 (by decide)) (by decide)) ?_))
  rintro _ w6 ⟨qb, qw, qt, qm, qh, H6⟩
  refine qG O (lg O (iJ O (Fp results17 O O ?_)))
  exact ⟨_, O, V.aaC (s := aX.new hl base most) (aew _ _ _) O O H6.f7.f9.f8.f8.f8.f8.f9.f9.f9⟩
end
end Go.Proofs.YtnhhmieghbfalaaGreatDoor
end
section
namespace Go.Proofs.YtnhhmieghbfalaaGreatDoor
open Go.RowKit
def oO (hl : List rM) (tx : Int → Option ByteArray) : List ByteArray := (List.range (hl.length + 1)).map fun (k : Nat) => fP hl tx (k : Int)
theorem rC (hl : List rM) (tx : Int → Option ByteArray) : (oO hl tx).length = hl.length + 1 := by simp [oO]
theorem G6 (hl : List rM) : (pz hl).length = hl.length + 1 := by simp [pz]
theorem EZ {hl : List rM} {tx : Int → Option ByteArray} {k : Nat} (hk : k ≤ hl.length) : (oO hl tx).getD k .empty = fP hl tx k := by
  unfold oO
  rw [List.getD_eq_getElem?_getD, List.getElem?_map, List.getElem?_range (by omega)]; rfl
theorem YN {hl : List rM} {k : Nat} (hk : k ≤ hl.length) : (pz hl).getD k .empty = BA hl k := by
  unfold pz BA WB
  by_cases h : k < hl.length
  · rw [if_pos (by omega), List.getD_eq_getElem?_getD, List.getElem?_append_left (by simpa using h), List.getElem?_map, List.getElem?_eq_getElem h]
    simp [List.getD_eq_getElem?_getD, h]
  · obtain rfl : k = hl.length := by omega
    rw [if_neg (by omega), List.getD_eq_getElem?_getD, List.getElem?_append_right (by simp)]
    simp
theorem Tc (hl : List rM) : oO hl (fun _ => none) = pz hl := by
  apply List.ext_getElem?
  intro k
  by_cases h : k ≤ hl.length
  · have h1 := EZ (tx := fun _ => none) h
    have h2 := YN h
    rw [List.getD_eq_getElem?_getD, List.getElem?_eq_getElem (by rw [rC]; omega)] at h1
    rw [List.getD_eq_getElem?_getD, List.getElem?_eq_getElem (by rw [G6]; omega)] at h2
    rw [List.getElem?_eq_getElem (by rw [rC]; omega), List.getElem?_eq_getElem (by rw [G6]; omega)]
    simp only [Option.getD_some] at h1 h2
    rw [h1, h2]; rfl
  · rw [List.getElem?_eq_none (by rw [rC]; omega), List.getElem?_eq_none (by rw [G6]; omega)]
theorem acH (hl : List rM) (tx : Int → Option ByteArray) {k : Nat} (b : ByteArray) (hk : k ≤ hl.length) : (oO hl tx).set k b = oO hl (um tx k (some b)) := by
  apply List.ext_getElem?
  intro j
  by_cases h : j ≤ hl.length
  · have h1 := EZ (tx := tx) h
    have h2 := EZ (tx := um tx k (some b)) h
    rw [List.getD_eq_getElem?_getD, List.getElem?_eq_getElem (by rw [rC]; omega)] at h1 h2
    simp only [Option.getD_some] at h1 h2
    rw [List.getElem?_set]
    by_cases e : k = j
    · subst e
      rw [if_pos rfl, if_pos (by rw [rC]; omega), List.getElem?_eq_getElem (by rw [rC]; omega), h2]
      unfold fP; rw [jv]; rfl
    · rw [if_neg e, List.getElem?_eq_getElem (by rw [rC]; omega), List.getElem?_eq_getElem (by rw [rC]; omega), h1, h2]
      unfold fP; rw [zi _ _ (by omega)]
  · rw [List.getElem?_eq_none (by rw [List.length_set, rC]; omega), List.getElem?_eq_none (by rw [rC]; omega)]
def Nu (c : rV) : Prop := (∀ k, iH (c.un k) [] ≤ 16384 ∧ ∀ g ∈ c.un k, g ≠ []) ∧ (c.E.length ≤ 60 ∧ (c.at_ < c.E.length ∨ c.at_ = 0) ∧ ∀ e ∈ c.E, e.length ≤ 1024)
def RX (s : aX) : Prop := Nu s.c ∧ (s.inn = true → Nu s.was ∧ s.c.last = s.was.last ∧ (s.jc = false → s.c.fr = s.was.fr ∧ s.c.to = s.was.to)) ∧ (s.inn = true → s.cls = 2 → s.jc = true)
def BH (hl : List rM) (A : List LE) : Prop := (A.map (·.1)).Nodup ∧ ∀ x ∈ A.map (·.1), 0 ≤ x ∧ x ≤ (hl.length : Int)
def OC (pb pk : Nat) (wv nv pv gv : Value) (hl : List rM) (c : rV) : List Value := [.pointer (some ⟨pb, 0, none⟩), .pointer (some ⟨pk, 0, none⟩), wv, nv, .int .i64 c.place, .string (fP hl c.tx c.place), pv, gv, .int .i64 c.mode, .bool c.over, .int .i64 c.res, .bool c.run]
structure ROP where
  pb : Nat
  pk : Nat
  wv : Value
  nv : Value
  pv : Value
  gv : Value
  A : List LE
def FB (inn : Bool) (hl : List rM) (c : rV) (u : List Value) : HP := if inn = true then BK fun (x : ROP) => fact (u = OC x.pb x.pk x.wv x.nv x.pv x.gv hl c ∧ Fv x.A = c.un ∧ BH hl x.A ∧ (u.all fun x => x.oneCell') = true) •
  kC x.pb c.L c.pt c.mark • lI x.pk c.E c.at_ • yK 1 x.wv (hl.length + 1) (strs (pz hl)) • Row 9 1 x.nv (hl.length + 1) (strs (oO hl c.tx)) • uQ .i64 x.pv (x.A.map (·.1)) • yK 1 x.gv x.A.length (x.A.map (·.2.1)) • xU x.A else fact ((u.all fun x => x.oneCell') = true)
structure iY (s : aX) (es : List gJ) (A : List LE) (yf yt : Int) : Prop where
  ok : ru s
  rx : RX s
  says : es.map gJ.says = s.put
  Fv : Fv A = s.c.un
  placed : BH s.hl A
  G9 : s.inn = true → s.jc = true → yf = s.c.fr ∧ yt = s.c.to
structure RdP where
  h : Nat
  pb : Nat
  pk : Nat
  wv : Value
  nv : Value
  pv : Value
  gv : Value
  A : List LE
  nw : Value
  es : List gJ
  yf : Int
  yt : Int
  ch : Bool
  u0 : Value
  u1 : Value
  u2 : Value
  u3 : Value
  u4 : Value
  u5 : Value
  u6 : Value
  u7 : Value
  u8 : Value
  u9 : Value
  ua : Value
  ub : Value
def dY (y : Nat) (s : aX) : HP := BK fun (x : RdP) => match x with
  | ⟨h, pb, pk, wv, nv, pv, gv, A, nw, es, yf, yt, ch, u0, u1, u2, u3, u4, u5, u6, u7, u8, u9, ua, ub⟩ => fact (iY s es A yf yt) • gU y (.cells (.pointer (some ⟨h, 0, none⟩) :: .pointer (some ⟨pb, 0, none⟩) :: .pointer (some ⟨pk, 0, none⟩) :: wv :: nv :: .int .i64 s.c.place :: .string (fP s.hl s.c.tx s.c.place) :: pv :: gv :: .int .i64 s.c.mode :: .bool s.c.over :: .int .i64 s.c.res :: .bool s.c.run :: u0 :: u1 :: u2 :: u3 :: u4 :: u5 :: u6 :: u7 :: u8 :: u9 :: ua :: ub :: .bool s.given :: .bool s.minus :: .int .i64 s.arg :: .int .i64 s.yx :: .int .i64 s.Ox :: .int .i64 s.Qi :: .int .i64 s.nR :: .bool s.inn :: .int .i64 s.cls :: .int .i64 yf :: .int .i64 yt :: .bool s.argues :: .bool s.lS :: .bool s.jc :: nw :: .bool s.whole :: .bool ch :: []).toArray 58 (0, 0)) • kC pb s.c.L s.c.pt s.c.mark • lI pk s.c.E s.c.at_ • yK 1 wv (s.hl.length + 1) (strs (pz s.hl)) • Row 9 1 nv (s.hl.length + 1) (strs (oO s.hl s.c.tx)) • uQ .i64 pv (A.map (·.1)) • yK 1 gv A.length (A.map (·.2.1)) • xU A • jS h s.hl s.base s.most • Row 143 3 nw s.put.length (es.flatMap gJ.enc) • oK es • FB s.inn s.hl s.was [u0, u1, u2, u3, u4, u5, u6, u7, u8, u9, ua, ub]
section
variable {w0 w : World} {F : HP} {y : Nat} {s : aX}
theorem V.xq (H : V w0 w (dY y s • F)) : ∃ h pb pk wv nv pv gv A nw es yf yt ch u0 u1 u2 u3 u4 u5 u6 u7 u8 u9 ua ub, iY s es A yf yt ∧ es.length = s.put.length ∧ V w0 w (gU y (.cells (.pointer (some ⟨h, 0, none⟩) :: .pointer (some ⟨pb, 0, none⟩) :: .pointer (some ⟨pk, 0, none⟩) :: wv :: nv :: .int .i64 s.c.place :: .string (fP s.hl s.c.tx s.c.place) :: pv :: gv :: .int .i64 s.c.mode :: .bool s.c.over :: .int .i64 s.c.res :: .bool s.c.run :: u0 :: u1 :: u2 :: u3 :: u4 :: u5 :: u6 :: u7 :: u8 :: u9 :: ua :: ub :: .bool s.given :: .bool s.minus :: .int .i64 s.arg :: .int .i64 s.yx :: .int .i64 s.Ox :: .int .i64 s.Qi :: .int .i64 s.nR :: .bool s.inn :: .int .i64 s.cls :: .int .i64 yf :: .int .i64 yt :: .bool s.argues :: .bool s.lS :: .bool s.jc :: nw :: .bool s.whole :: .bool ch :: []).toArray 58 (0, 0)) • kC pb s.c.L s.c.pt s.c.mark • lI pk s.c.E s.c.at_ • yK 1 wv (s.hl.length + 1) (strs (pz s.hl)) • Row 9 1 nv (s.hl.length + 1) (strs (oO s.hl s.c.tx)) • uQ .i64 pv (A.map (·.1)) • yK 1 gv A.length (A.map (·.2.1)) • xU A • jS h s.hl s.base s.most • Row 143 3 nw s.put.length (es.flatMap gJ.enc) • oK es • FB s.inn s.hl s.was [u0, u1, u2, u3, u4, u5, u6, u7, u8, u9, ua, ub] • F) := by
  obtain ⟨⟨h, pb, pk, wv, nv, pv, gv, A, nw, es, yf, yt, ch, u0, u1, u2, u3, u4, u5, u6, u7, u8, u9, ua, ub⟩, H⟩ := H.sS
  obtain ⟨h1, H⟩ := H.flat.fact
  refine ⟨h, pb, pk, wv, nv, pv, gv, A, nw, es, yf, yt, ch, u0, u1, u2, u3, u4, u5, u6, u7, u8, u9, ua, ub, h1, ?_, ?_⟩
  · rw [← h1.says]; simp
  · exact H.of_eq (by simp only [eX])
theorem V.fE {h pb pk : Nat} {wv nv pv gv : Value} {A : List LE} {nw : Value} {es : List gJ} {yf yt : Int} {ch : Bool} {u0 u1 u2 u3 u4 u5 u6 u7 u8 u9 ua ub : Value} (h1 : iY s es A yf yt) (H : V w0 w (gU y (.cells (.pointer (some ⟨h, 0, none⟩) :: .pointer (some ⟨pb, 0, none⟩) :: .pointer (some ⟨pk, 0, none⟩) :: wv :: nv :: .int .i64 s.c.place :: .string (fP s.hl s.c.tx s.c.place) :: pv :: gv :: .int .i64 s.c.mode :: .bool s.c.over :: .int .i64 s.c.res :: .bool s.c.run :: u0 :: u1 :: u2 :: u3 :: u4 :: u5 :: u6 :: u7 :: u8 :: u9 :: ua :: ub :: .bool s.given :: .bool s.minus :: .int .i64 s.arg :: .int .i64 s.yx :: .int .i64 s.Ox :: .int .i64 s.Qi :: .int .i64 s.nR :: .bool s.inn :: .int .i64 s.cls :: .int .i64 yf :: .int .i64 yt :: .bool s.argues :: .bool s.lS :: .bool s.jc :: nw :: .bool s.whole :: .bool ch :: []).toArray 58 (0, 0)) • kC pb s.c.L s.c.pt s.c.mark • lI pk s.c.E s.c.at_ • yK 1 wv (s.hl.length + 1) (strs (pz s.hl)) • Row 9 1 nv (s.hl.length + 1) (strs (oO s.hl s.c.tx)) • uQ .i64 pv (A.map (·.1)) • yK 1 gv A.length (A.map (·.2.1)) • xU A • jS h s.hl s.base s.most • Row 143 3 nw s.put.length (es.flatMap gJ.enc) • oK es • FB s.inn s.hl s.was [u0, u1, u2, u3, u4, u5, u6, u7, u8, u9, ua, ub] • F)) : V w0 w (dY y s • F) :=
  V.lK ⟨h, pb, pk, wv, nv, pv, gv, A, nw, es, yf, yt, ch, u0, u1, u2, u3, u4, u5, u6, u7, u8, u9, ua, ub⟩ (V.deep (V.qY h1 (H.of_eq (by simp only [eX]))))
theorem acI {inn : Bool} {hl : List rM} {c : rV} {u : List Value} (H : V w0 w (FB inn hl c u • F)) : (u.all fun x => x.oneCell') = true := by
  unfold FB at H
  cases inn with
  | true =>
    rw [if_pos rfl] at H
    obtain ⟨x, H⟩ := H.sS
    exact H.flat.fact.1.2.2.2
  | false =>
    rw [if_neg (by decide)] at H
    exact H.fact.1
theorem V.Nv {hl : List rM} {c : rV} {u : List Value} (H : V w0 w F) (hu : (u.all fun x => x.oneCell') = true) : V w0 w (FB false hl c u • F) := by
  unfold FB
  rw [if_neg (by decide)]
  exact H.qY hu
theorem V.akZ {hl : List rM} {c : rV} {u : List Value} (H : V w0 w (FB true hl c u • F)) : ∃ pb pk wv nv pv gv A, u = OC pb pk wv nv pv gv hl c ∧ Fv A = c.un ∧ BH hl A ∧ (u.all fun x => x.oneCell') = true ∧
    V w0 w (kC pb c.L c.pt c.mark • lI pk c.E c.at_ • yK 1 wv (hl.length + 1) (strs (pz hl)) • Row 9 1 nv (hl.length + 1) (strs (oO hl c.tx)) • uQ .i64 pv (A.map (·.1)) • yK 1 gv A.length (A.map (·.2.1)) • xU A • F) := by
  unfold FB at H
  rw [if_pos rfl] at H
  obtain ⟨⟨pb, pk, wv, nv, pv, gv, A⟩, H⟩ := H.sS
  obtain ⟨⟨h1, h2, h3, h4⟩, H⟩ := H.flat.fact
  exact ⟨pb, pk, wv, nv, pv, gv, A, h1, h2, h3, h4, H.of_eq (by simp only [eX])⟩
theorem V.agk {hl : List rM} {c : rV} {pb pk : Nat} {wv nv pv gv : Value} {A : List LE} (h2 : Fv A = c.un) (h3 : BH hl A) (H : V w0 w (kC pb c.L c.pt c.mark • lI pk c.E c.at_ • yK 1 wv (hl.length + 1) (strs (pz hl)) • Row 9 1 nv (hl.length + 1) (strs (oO hl c.tx)) • uQ .i64 pv (A.map (·.1)) • yK 1 gv A.length (A.map (·.2.1)) • xU A • F)) : V w0 w (FB true hl c (OC pb pk wv nv pv gv hl c) • F) := by
  have o1 := (H.f3).oC.one
  have o2 := (H.f4).aJ.one
  have o3 := (H.f5).o9.one
  have o4 := (H.f6).oC.one
  have hu : ((OC pb pk wv nv pv gv hl c).all fun x => x.oneCell') = true := by
    unfold OC
    simp only [List.all_cons, List.all_nil, o1, o2, o3, o4, Bool.and_true, Bool.true_and]
    rfl
  unfold FB
  rw [if_pos rfl]
  exact V.lK ⟨pb, pk, wv, nv, pv, gv, A⟩ (V.deep (V.qY ⟨rfl, h2, h3, hu⟩ (H.of_eq (by simp only [eX]))))
end
end Go.Proofs.YtnhhmieghbfalaaGreatDoor
end
section
namespace Go.Proofs.YtnhhmieghbfalaaGreatDoor
open Go.RowKit
open _root_.Go.Proofs.Tryz
section
variable {w0 w : World} {F : HP} {e p h pr : Nat} {s : aX} {hl : List rM} {base most m : Int} {v : Value} {l : List Int}
theorem EC (h : s.inn = false) : s.dA = { s with inn := true, was := s.c, cls := 0, lS := false, jc := false, argues := false, whole := true, put := [] } := by unfold aX.dA; rw [if_neg (by simp [h])]
theorem Td (h : s.inn = true) : s.dA = s := by unfold aX.dA; rw [if_pos h]
theorem abU {G : List (List jH)} {N : List jH} (h : iH G N ≤ 16384) : iH G [] ≤ 16384 := by unfold iH at *; simp at *; omega
theorem YO (h : ru s) (hi : s.inn = false) : ru s.dA := by
  rw [EC hi]
  obtain ⟨h1, h2, h3, h4, h5, h6⟩ := h
  exact ⟨h1, fun _ => ⟨h1, abU h5, h6⟩, h3, by simp, abU h5, h6⟩
theorem Eh (H : V w0 w (gQ e s • F)) : iK prog 6 #[.pointer (some ⟨e, 0, none⟩)] w fun v w' => v = .int .i64 s.DU ∧ V w0 w' (gQ e s.dA • F) := by
 refine jl func6 ntmps6 ?_
 refine kG O (aI (bK (bT O (fH O func22 (zn H) ?_))))
 rintro _ _ ⟨rfl, rfl⟩
 refine iU O (yh (aI ?_))
 obtain ⟨vC, wF, wG, xC, wH, wI, wJ, wK, vF, rW, rX, rY, rZ, su, sD, sH, sJ, sK, sN, sO, gB, dF, kK, gG⟩ := (H).Gs
 refine aF (kY O O (bg 16 aj O aN O (dQ bn O (gG).get.2 O (iU O (dw O (fun h1 => ?_) (fun h1 => ?_))))))
 ·(try simp only [aG] at h1)
  have hin := h1
  refine jE O (aY (aC (dO results6 O ?_)))
  exact ⟨by unfold aX.DU; rw [if_pos hin], by rw [Td hin]; exact V.iC gB dF gG.f11.f11.f11.f11.f11.f11.f11.f11.f11.f11.f11⟩
 ·(try simp only [aG] at h1)
  have hin := h1
  refine eG (aS (aZ (bT O (ku O O (dM O (bg 0 aj O aU O (aT (yj 0 (xs := [_, _, _, _, _, _, _, _, _, _, _]) aK O aU O O (gG).get.2 O) (fH O func23 (aep gG.f6.f6.f6.f6.f6) ?_))))))))
  rintro _ w3 ⟨qb3, qr3, qw3, qt3, qm3, rfl, H3⟩
  refine dM O (bg 16 aj O aN O (aH (ig 16 H3.f11 aN) ?_))
  rintro _ w4 H4
  refine dM O (bg 17 aj O aU O (aH (dR 17 (l' := [_, _, _, _, _, _, _, _, _, _, _, _, _, _, _, _, _, _, _, _, _, _, _, _, _, _, _, _, _, _, _, _, _, _]) (us := [_, _, _, _, _, _, _, _, _, _, _]) H4 aU O O O (aP (aP (aP (aP (aP (aP (aP (aP (aP (aP (aP bW))))))))))) O O) ?_))
  rintro _ w5 H5
  refine qG O (ku O O (ku O O (kY O O (bg 28 aj O ah O (aH (ig 28 H5 ah) ?_)))))
  rintro _ w6 H6
  refine dM O (bg 29 aj O aN O (aH (ig 29 H6 aN) ?_))
  rintro _ w7 H7
  refine dM O (bg 30 aj O aN O (aH (ig 30 H7 aN) ?_))
  rintro _ w8 H8
  refine dM O (bg 31 aj O aN O (aH (ig 31 H8 aN) ?_))
  rintro _ w9 H9
  refine dM O (bg 32 aj O aN O (aH (ig 32 H9 aN) ?_))
  rintro _ w10 rU
  refine dM O (bg 33 aj O bU O (aH (ig 33 rU bU) ?_))
  rintro _ Ii rE
  refine iR (jE O (dO results6 O ?_))
  have WS := rE.f6.f6.f6.f6.f6
  have Uu := V.ah2 (c := s.c) WS
  exact ⟨by unfold aX.DU; rw [if_neg (by simp [hin])], by rw [EC hin]; exact V.SY (EC hin ▸ YO gB hin) O Uu.f10.right.f10.right.f10.right.f9.f9.f9.f9.f9.f9.f9.f9⟩
end
end Go.Proofs.YtnhhmieghbfalaaGreatDoor
end
