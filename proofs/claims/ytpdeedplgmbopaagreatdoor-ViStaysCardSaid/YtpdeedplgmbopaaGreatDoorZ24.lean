import Derived.Test.YtpdeedplgmbopaaGreatDoorZ4
import Derived.Test.YtpdeedplgmbopaaGreatDoorZ23
import Derived.Test.YtpdeedplgmbopaaGreatDoorZ9
import Derived.Test.YtpdeedplgmbopaaGreatDoorZ15
import Derived.Test.YtpdeedplgmbopaaGreatDoorZ18
import Derived.Test.YtpdeedplgmbopaaGreatDoorZ8
import Derived.Test.YtpdeedplgmbopaaGreatDoorZ6
import Derived.Test.YtpdeedplgmbopaaGreatDoorZ7
import Derived.Test.YtpdeedplgmbopaaGreatDoorZ5
import Derived.Test.YtpdeedplgmbopaaGreatDoorZ11
import Derived.Test.YtpdeedplgmbopaaGreatDoorZ13
import Derived.Test.YtpdeedplgmbopaaGreatDoorZ16
set_option linter.unusedSimpArgs false
set_option linter.unusedVariables false
/- Texts of mine, joined, their names in short: ESame2 EStM VStM RLs BufAny Ref7c RefAny RefRing REd REdX RLs2. -/
section
namespace Go.Proofs.YtpdeedplgmbopaaGreatDoor
open Go.RowKit
open _root_.Go.Proofs.Tryz
structure zQ where
  pt : Int
  mrk : Int
  mode : Int
  over : Bool
  given : Bool
  minus : Bool
  arg : Int
  last : Int
  fr : Int
  to : Int
  place : Int
  Lr : Int
  res : Int
  lI : Int
def stL (x : zQ) (u ks sv : Value) : List Value := [u, .int .i64 x.pt, .int .i64 x.mrk, .int .i64 x.mode, .bool x.over, .bool x.given, .bool x.minus, .int .i64 x.arg, .int .i64 x.last, .int .i64 x.fr, .int .i64 x.to, ks, .int .i64 x.place, sv, .int .i64 x.Lr, .int .i64 x.res, .int .i64 x.lI]
theorem aaL (x : Int × ByteArray) : (yH x).length = 2 := rfl
section
variable {w0 w : World} {F : HP} {x : zQ} {u z ks qs sv tv : Value} {l : List Int} {ls : List (List Int)} {us vs : List Value} {S : List (Int × ByteArray)}
theorem qj (H : V w0 w F) (g1 : jO w0 F .i32 u l) (g2 : jO w0 F .i32 z l) (k1 : Ua w0 F 1 ks ls.length us) (k2 : Ua w0 F 1 qs ls.length vs)
  (e1 : ∀ k, k < ls.length → jO w0 F .i32 (us.getD k undef) (ls.getD k [])) (e2 : ∀ k, k < ls.length → jO w0 F .i32 (vs.getD k undef) (ls.getD k []))
  (s1 : Ua w0 F 2 sv S.length (S.flatMap yH)) (s2 : Ua w0 F 2 tv S.length (S.flatMap yH)) :
  jf prog 25 #[.agg (stL x u ks sv).toArray, .agg (stL x z qs tv).toArray] w fun v' w' => v' = .bool true ∧ V w0 w' F := by
 have hb1 : (ls.length : Int) ≤ 9223372036854775807 := by obtain ⟨_, a, c, _, h1, h2, _⟩ := k1 w H; omega
 have hb2 : (S.length : Int) ≤ 9223372036854775807 := by obtain ⟨_, a, c, _, h1, h2, _⟩ := s1 w H; omega
 unfold stL
 refine qo func25 ntmps25 ?_
 refine jg (kV (kK (l := [_, _, _, _, _, _, _, _, _, _, _, _, _, _, _, _, _]) H O O) ?_)
 rintro _ w1 ⟨b1, rfl, H1⟩
 refine kV (kK (l := [_, _, _, _, _, _, _, _, _, _, _, _, _, _, _, _, _]) H1 O O) ?_
 rintro _ w2 ⟨b2, rfl, H2⟩
 refine tX O (jg (bM 0 aG O sizeOf46 O (aV (pz 0 (xs := [_, _, _]) fK O sizeOf46 O O (H2.f2).get.2 O) (bM 0 aG O sizeOf46 O (aV (pz 0 (xs := [_, _, _]) fK O sizeOf46 O O (H2).get.2 O) (dX O func76 (Rx (l := l) (pt := x.pt) (mk := x.mrk) H2 (fun W HW => g1 _ (HW.right.right)) (fun W HW => g2 _ (HW.right.right))) ?_))))))
 rintro _ w3 ⟨rfl, H3⟩
 refine aV (jR O) (OB O (fun h1 => ?_))
 (try simp only [Z] at h1)
 refine bF (bM 3 aG O aj O (bF (eH aA O (H3.f2).get.2 O (bF (bM 3 aG O aj O (bF (eH aA O (H3).get.2 O (bF (aV (fF O O) (iH O O (OB O (fun h2 => ?_))))))))))))
 (try simp only [Z] at h2)
 refine bF (bM 4 aG O aT O (bF (eH bJ O (H3.f2).get.2 O (bF (bM 4 aG O aT O (bF (eH bJ O (H3).get.2 O (bF (aV (JE bJ O O) (iH O O (OB O (fun h3 => ?_))))))))))))
 (try simp only [Z] at h3)
 refine bF (bM 5 aG O aT O (bF (eH bJ O (H3.f2).get.2 O (bF (bM 5 aG O aT O (bF (eH bJ O (H3).get.2 O (bF (aV (JE bJ O O) (iH O O (OB O (fun h4 => ?_))))))))))))
 (try simp only [Z] at h4)
 refine bF (bM 6 aG O aT O (bF (eH bJ O (H3.f2).get.2 O (bF (bM 6 aG O aT O (bF (eH bJ O (H3).get.2 O (bF (aV (JE bJ O O) (iH O O (OB O (fun h5 => ?_))))))))))))
 (try simp only [Z] at h5)
 refine bF (bM 7 aG O aj O (bF (eH aA O (H3.f2).get.2 O (bF (bM 7 aG O aj O (bF (eH aA O (H3).get.2 O (bF (aV (fF O O) (iH O O (OB O (fun h6 => ?_))))))))))))
 (try simp only [Z] at h6)
 refine bF (bM 8 aG O aj O (bF (eH aA O (H3.f2).get.2 O (bF (bM 8 aG O aj O (bF (eH aA O (H3).get.2 O (bF (aV (fF O O) (iH O O (OB O (fun h7 => ?_))))))))))))
 (try simp only [Z] at h7)
 refine bF (bM 9 aG O aj O (bF (eH aA O (H3.f2).get.2 O (bF (bM 9 aG O aj O (bF (eH aA O (H3).get.2 O (bF (aV (fF O O) (iH O O (OB O (fun h8 => ?_))))))))))))
 (try simp only [Z] at h8)
 refine bF (bM 10 aG O aj O (bF (eH aA O (H3.f2).get.2 O (bF (bM 10 aG O aj O (bF (eH aA O (H3).get.2 O (bF (aV (fF O O) (iH O O (OB O (fun h9 => ?_))))))))))))
 (try simp only [Z] at h9)
 refine bF (bM 11 aG O sizeOf47 O (bF (eH gQ O (H3.f2).get.2 O (bF (aV (ku (k1 _ (H3.right.right)) gQ O) (bF (bM 11 aG O sizeOf47 O (bF (eH gQ O (H3).get.2 O (bF (aV (ku (k2 _ (H3.right.right)) gQ O) (bF (aV (fF O O) (iH O O (iR (JF O (fun h10 => ?_)))))))))))))))))
 (try simp only [Z] at h10)
 refine gy (aI (kH O (bf ?_)))
 refine iy [(2, _), (3, _)] (fun (k : Nat) => [(5, .int .i64 (k : Int))]) (fun (k : Nat) W => k ≤ ls.length ∧ V w0 W (gJ b1 (.cells (stL x u ks sv).toArray 50 (0, 0)) • gJ b2 (.cells (stL x z qs tv).toArray 50 (0, 0)) • F)) (fun (k : Nat) => ls.length - k) (0) sG lH ⟨by omega, H3.f2⟩ ?_
 rintro k w4 ⟨hk, HL⟩
 dsimp only [List.cons_append, List.nil_append]
 refine aI (bI O (bM 11 aG O sizeOf47 O (eH gQ O (HL).get.2 O (aV (ku (k1 _ (HL.right.right)) gQ O) (aV (gG O O) (iW O (fun h11 => ?_) (fun h11 => ?_)))))))
 ·(try simp only [Z] at h11)
  have hkl : k < ls.length := by have h9 := h11; omega
  refine gy (aI (bf (aI ?_)))
  have abY := HL.drew
  have Iy := V.kp (abY.f2.f2)
  refine nG [1, 4, 6, 9] Iy O (dJ 0 O Iy 11 aG O sizeOf47 O (fM 1 O Iy (fun W hW => fQ gQ O ((Kp.h hW)).get.2 O) (fD 2 O Iy O ?_)))
  obtain ⟨bks, oks, cks, eks⟩ := Rd.qN (k1 _ (abY.right.right)) (by omega)
  cases eks
  refine dS 3 O Iy (fun _ => dI gQ bD O O (by omega)) ?_
  refine fM 4 O Iy (fun W hW => dW (bV ah O) O (by first | exact Rd.lN (k1 _ ((Kp.h hW).right.right)) (by omega) | exact Rd.uP (k1 _ ((Kp.h hW).right.right)) (by omega) | exact Rd.wO (k1 _ ((Kp.h hW).right.right)) (by omega))) ?_
  refine aci (fun al2 aix => ?_)
  refine dJ 5 O Iy 11 aG O sizeOf47 O (fM 6 O Iy (fun W hW => fQ gQ O ((Kp.h hW).f2).get.2 O) (fD 7 O Iy O ?_))
  obtain ⟨bqs, oqs, cqs, eqs⟩ := Rd.qN (k2 _ (abY.right.right)) (by omega)
  cases eqs
  refine dS 8 O Iy (fun _ => dI gQ bD O O (by omega)) ?_
  refine fM 9 O Iy (fun W hW => dW (bV ah O) O (by first | exact Rd.lN (k2 _ ((Kp.h hW).right.right)) (by omega) | exact Rd.uP (k2 _ ((Kp.h hW).right.right)) (by omega) | exact Rd.wO (k2 _ ((Kp.h hW).right.right)) (by omega))) ?_
  refine aci (fun al3 aiy => ?_)
  refine ny 10 O (wM O func77 (VK _ _ _ _ _ ((by rw [aix]; exact e1 _ (by omega) _ (abY.right.right))) ((by rw [aiy]; exact e2 _ (by omega) _ (abY.right.right))))) ?_
  rintro _ w7 ⟨rfl, hD7⟩
  have HD7 := abY.zh hD7
  have Ae := V.kp (HD7.f2.f2)
  refine gU Ae (by kernel_rfl) ?_
  refine dS 11 O Ae (fun _ => jR O) (lJ (aU (JF O (fun h12 => ?_))))
  (try simp only [Z] at h12)
  refine bU (aH (aU (aF (bW O (aV (fH O O (by omega)) (gW O (bT ?_)))))))
  refine dN (k + 1) ?_ ?_ ?_ ?_
  ·exact lH
  ·exact sG
  ·(try dsimp only)
   first | done | exact ⟨by omega, HD7.f2.f2⟩
  ·(try dsimp only); omega
 ·(try simp only [Z] at h11)
  refine dR (aP (aP (bH (aU (aI (jg (bM 12 aG O aj O (eH aA O (HL).get.2 O (bM 12 aG O aj O (eH aA O (HL.f2).get.2 O (aV (fF O O) (OB O (fun h13 => ?_)))))))))))))
  (try simp only [Z] at h13)
  refine bF (bM 13 aG O sizeOf48 O (bF (eH kP O (HL).get.2 O (bF (aV (ku (s1 _ (HL.right.right)) kP O) (bF (bM 13 aG O sizeOf48 O (bF (eH kP O (HL.f2).get.2 O (bF (aV (ku (s2 _ (HL.right.right)) kP O) (bF (aV (fF O O) (iH O O (OB O (fun h14 => ?_))))))))))))))))
  (try simp only [Z] at h14)
  refine bF (bM 14 aG O aj O (bF (eH aA O (HL).get.2 O (bF (bM 14 aG O aj O (bF (eH aA O (HL.f2).get.2 O (bF (aV (fF O O) (iH O O (OB O (fun h15 => ?_))))))))))))
  (try simp only [Z] at h15)
  refine bF (bM 15 aG O aj O (bF (eH aA O (HL).get.2 O (bF (bM 15 aG O aj O (bF (eH aA O (HL.f2).get.2 O (bF (aV (fF O O) (iH O O (OB O (fun h16 => ?_))))))))))))
  (try simp only [Z] at h16)
  refine bF (bM 16 aG O fV O (bF (eH gq O (HL).get.2 O (bF (bM 16 aG O fV O (bF (eH gq O (HL.f2).get.2 O (bF (aV (fF O O) (iH O O (iR (JF O (fun h17 => ?_)))))))))))))
  (try simp only [Z] at h17)
  refine gy (aI (kH O (bf ?_)))
  refine iy [(2, _), (3, _)] (fun (k2 : Nat) => [(6, .int .i64 (k2 : Int))]) (fun (k2 : Nat) W => k2 ≤ S.length ∧ V w0 W (gJ b1 (.cells (stL x u ks sv).toArray 50 (0, 0)) • gJ b2 (.cells (stL x z qs tv).toArray 50 (0, 0)) • F)) (fun (k2 : Nat) => S.length - k2) (0) sG lH ⟨by omega, HL.f2.f2⟩ ?_
  rintro k2 w8 ⟨hk2, HL2⟩
  dsimp only [List.cons_append, List.nil_append]
  refine aI (bI O (bM 13 aG O sizeOf48 O (eH kP O (HL2).get.2 O (aV (ku (s1 _ (HL2.right.right)) kP O) (aV (gG O O) (iW O (fun h18 => ?_) (fun h18 => ?_)))))))
  ·(try simp only [Z] at h18)
   have hkl2 : k2 < S.length := by have h9 := h18; omega
   refine gy (aI (bf (aI ?_)))
   have aaM := HL2.drew
   have BH := V.kp (aaM.f2.f2)
   refine nG [1, 4, 6, 9] BH O (dJ 0 O BH 13 aG O sizeOf48 O (fM 1 O BH (fun W hW => fQ kP O ((Kp.h hW)).get.2 O) (fD 2 O BH O ?_)))
   obtain ⟨bsv, osv, csv, esv⟩ := Rd.qN (s1 _ (aaM.right.right)) (by omega)
   cases esv
   refine dS 3 O BH (fun _ => dI kP sizeOf133 O O (by omega)) (fM 4 O BH (fun W hW => pI (ys := [_, _]) (s1 _ ((Kp.h hW).right.right)) (by omega) underlying133 O sizeOf133 O (rY aaL (by omega) default) O) (dJ 5 O BH 13 aG O sizeOf48 O (fM 6 O BH (fun W hW => fQ kP O ((Kp.h hW).f2).get.2 O) (fD 7 O BH O ?_))))
   obtain ⟨btv, otv, ctv, etv⟩ := Rd.qN (s2 _ (aaM.right.right)) (by omega)
   cases etv
   refine dS 8 O BH (fun _ => dI kP sizeOf133 O O (by omega)) (fM 9 O BH (fun W hW => pI (ys := [_, _]) (s2 _ ((Kp.h hW).right.right)) (by omega) underlying133 O sizeOf133 O (rY aaL (by omega) default) O) (dS 10 O BH (fun _ => Vg O O) (lJ (aU (JF O (fun h19 => ?_))))))
   (try simp only [Z] at h19)
   refine bU (aH (aU (aF (bW O (aV (fH O O (by omega)) (gW O (bT ?_)))))))
   refine dN (k2 + 1) ?_ ?_ ?_ ?_
   ·exact lH
   ·exact sG
   ·(try dsimp only)
    first | done | exact ⟨by omega, aaM.f2.f2⟩
   ·(try dsimp only); omega
  ·(try simp only [Z] at h18)
   refine dR (aP (aP (bH (aU (jS O (dL results25 O ?_))))))
   exact ⟨O, HL2.right.right⟩
end
end Go.Proofs.YtpdeedplgmbopaaGreatDoor
end
section
namespace Go.Proofs.YtpdeedplgmbopaaGreatDoor
open Go.RowKit
def QE (s : bQ) : zQ := ⟨s.c.pt, s.c.mark, s.c.mode, s.c.over, s.given, s.minus, s.arg, s.Ef, s.frS, s.toS, s.c.place, s.rE, s.c.res, s.lI⟩
end Go.Proofs.YtpdeedplgmbopaaGreatDoor
end
section
namespace Go.Proofs.YtpdeedplgmbopaaGreatDoor
open Go.RowKit
open _root_.Go.Proofs.Tryz
structure Vj (s a : bQ) : Prop where
  L : a.c.L = s.c.L
  E : a.c.E = s.c.E
  uP : a.c.at_ = s.c.at_
  saved : a.saved = s.saved
  lI : a.lI = s.lI ∨ a.lI = IntKind.i64.wrap (s.lI + 1)
  st : QE s = { QE a with given := s.given, minus := s.minus, arg := s.arg, last := s.Ef, fr := s.frS, to := s.toS, lI := s.lI }
section
variable {s t u a : bQ} {x : Int}
theorem Vj.refl (s : bQ) : Vj s s := ⟨rfl, rfl, rfl, rfl, .inl rfl, rfl⟩
theorem Vj.bad (hi : s.inn = false) (hf : Fr s.cZ t) (hx : x ≠ 0) : Vj s (t.lQ x) ∧ (t.lQ x).inn = false ∧ t.BD x = x := by
  obtain ⟨b1, b2, b3⟩ := aey hi
  obtain ⟨c1, c2, c3, c4, c5, c6⟩ := agj (s := s) (t := t) (hf.inn.trans (yQ s)) (hf.was.trans b1) (hf.hl.trans b2) (hf.lI.trans b3) hx
  have hu : (t.lQ x).rE = s.rE := by
    rw [QD c5, QD hi]
    unfold bQ.here
    rw [c1]
  have hs : (t.lQ x).saved = s.saved := by
    unfold bQ.saved
    rw [c1, c2]
  refine ⟨⟨by rw [c1], by rw [c1], by rw [c1], hs, .inr c3, ?_⟩, c5, c6⟩
  unfold QE
  rw [hu, c1]
theorem agk (s : bQ) : Fr s s.BO := by unfold bQ.BO; split; exact qI _ _; exact Fr.refl s
theorem ZC (u : bQ) (h : u.inn = true) : (u.lQ 0).c.mode = u.c.mode := by by_cases ha : u.argues = true <;> by_cases hp : u.put = [] <;> by_cases hc : u.cls = 2 <;> simp [bQ.lQ, bQ.mD, bQ.kR, bQ.eX, bQ.wI, bQ.lV, bQ.jr, bQ.here, jo, ha, hp, hc, h]
theorem alv (hi : s.inn = false) (hf : Fr s.cZ t) : (t.X7 x).inn = false ∧ (t.Zf x ≠ 0 → Vj s (t.X7 x)) ∧
    (t.Zf x = 0 → (t.X7 x).c.mode = 2 → 0 < (t.X7 x).c.L.length → (t.X7 x).c.pt ≤ (t.X7 x).c.L.length → (t.X7 x).c.pt < (t.X7 x).c.L.length) := by
  have hti : t.inn = true := hf.inn.trans (yQ s)
  by_cases hx : x = 0
  · subst hx
    have e1 : t.Zf 0 = t.BO.BD t.Jw := if_pos rfl
    have e2 : t.X7 0 = t.BO.lQ t.Jw := if_pos rfl
    rw [e1, e2]
    have hfs := hf.trans (agk t)
    have hsi : t.BO.inn = true := hfs.inn.trans (yQ s)
    by_cases hs : t.Jw = 0
    · rw [hs]
      refine ⟨Fg _ hsi, fun h => absurd (by unfold bQ.BD; rw [if_pos hsi]) h, fun _ => ?_⟩
      rw [ZC _ hsi, Ih _ hsi, KT _ hsi]
      intro hm hl hp
      by_cases hc : t.DZ
      · have e3 : t.BO = t.wK ((t.c.L.length : Int) - 1) := by unfold bQ.BO; rw [if_pos hc]
        unfold bQ.DZ at hc
        rw [e3]
        unfold bQ.wK
        rw [if_pos hti]
        unfold mvP
        rw [if_pos (by omega)]
        show (t.c.L.length : Int) - 1 < t.c.L.length
        omega
      · have e3 : t.BO = t := by unfold bQ.BO; rw [if_neg hc]
        rw [e3] at hm hl hp ⊢
        unfold bQ.DZ at hc
        omega
    · obtain ⟨h1, h2, h3⟩ := Vj.bad hi hfs hs
      exact ⟨h2, fun _ => h1, fun h => absurd (h3.symm.trans h) hs⟩
  · have e1 : t.Zf x = t.BD x := if_neg hx
    have e2 : t.X7 x = t.lQ x := if_neg hx
    rw [e1, e2]
    obtain ⟨h1, h2, h3⟩ := Vj.bad hi hf hx
    exact ⟨h2, fun _ => h1, fun h => absurd (h3.symm.trans h) hx⟩
end
section
variable {w0 w : World} {F : HP} {m e : Nat} {s : bQ} {name : ByteArray} {kv : Value} {keys : List Int} {M : VM} {n : Int} {g : Bool}
theorem aez (h : zM name ∨ vZ name) : ¬ name.toList = Qg.toList := by
  intro hr
  unfold zM vZ at h
  rw [hr] at h
  rcases h with (h | h | h | h) | (h | h | h | h | h) <;> exact absurd h (Gv (by decide))
theorem aeA (hT : Bq w0) (hw : nT name keys = 0) (hn : 1 ≤ n ∧ n ≤ 1000000) : U8 w0 name keys n g s M fun x t M' => Fr s t := by
  intro F w c m e kv lv H hk
  obtain ⟨mb, kv', tv', hM, _⟩ := (H.f3).vm
  refine aev hT hw hn (fun hre hne => ?_) F w c m e kv lv H hk
  rcases hM.2.2 with h0 | ⟨h1, h2, h3, h4⟩
  · exact absurd h0 hne
  · exact aev hT h2 (by cases g <;> simp <;> omega) fun hr2 => absurd hr2 (aez h1)
theorem aj0 (H : V w0 w (jW m M • dZ e s • F)) (hi : s.inn = false) (hk : jO w0 F .i32 kv keys) (hT : Bq w0) (hkl : keys.length * 4 ≤ 140737488355328) :
    jf prog 24 #[.pointer (some ⟨m, 0, none⟩), .pointer (some ⟨e, 0, none⟩), .string name, kv] w fun v w' => ∃ x a M', a.inn = false ∧ (x ≠ 0 → Vj s a) ∧ (x = 0 → a.c.mode = 2 → 0 < a.c.L.length → a.c.pt < a.c.L.length) ∧ v = .int .i64 x ∧ V w0 w' (jW m M' • dZ e a • F) := by
  by_cases hw : nT name keys = 0
  · have hco := MF s (Zg H.f2)
    refine (aaB H hi hk hkl hw (aeA hT hw (by rw [show s.cZ.count = s.count from by unfold bQ.cZ; split <;> rfl]; omega))).mono ?_
    rintro v w' ⟨x, t, M', hf, rfl, H'⟩
    obtain ⟨d1, d2, d3⟩ := alv (x := x) hi hf
    exact ⟨_, _, _, d1, d2, fun h1 h2 h3 => d3 h1 h2 h3 (xH H'.f2).2.2, rfl, H'⟩
  · refine (afV H hi hk hw).mono ?_
    rintro v w' ⟨rfl, H'⟩
    exact ⟨_, _, _, hi, fun _ => Vj.refl s, fun h => absurd h (by split <;> decide), rfl, H'⟩
end
end Go.Proofs.YtpdeedplgmbopaaGreatDoor
end
section
namespace Go.Proofs.YtpdeedplgmbopaaGreatDoor
open Go.RowKit
def Bl (sz : Nat) (v : Value) (n : Nat) (xs : List Value) : HP := know (fun I => Ja I sz v n xs) fun _ _ hl h => h.mono hl
abbrev LE := Int × Value × List (Value × List gX)
def Iz (gs : List (Value × List gX)) : List (List jL) := gs.map fun g => g.2.map gX.says
def MH (A : List LE) (k : Int) : List (List jL) := ((A.find? fun x => x.1 == k).map fun x => Iz x.2.2).getD []
def FB (A : List LE) (k : Int) (u : Value) (gs : List (Value × List gX)) : List LE := A.filter (fun x => x.1 != k) ++ [(k, u, gs)]
def GlI (I : Hp) (v : Value) (gs : List (Value × List gX)) : Prop := Ja I 1 v gs.length (gs.map (·.1)) ∧ JH I gs
theorem GlI.mono {I I' : Hp} {v : Value} {gs : List (Value × List gX)} (hl : Hp.le I I') (h : GlI I v gs) : GlI I' v gs := ⟨h.1.mono hl, h.2.mono hl⟩
def glK (v : Value) (gs : List (Value × List gX)) : HP := Bl 1 v gs.length (gs.map (·.1)) • tN gs
def agl (I : Hp) (A : List LE) : Prop := ∀ k, k < A.length → GlI I (A.getD k default).2.1 (A.getD k default).2.2
def xX (A : List LE) : HP := know (fun I => agl I A) fun _ _ hl h k hk => (h k hk).mono hl
def lsK (pv gv : Value) (A : List LE) : HP := qZ .i64 pv (A.map (·.1)) • Bl 1 gv A.length (A.map (·.2.1)) • xX A
theorem agm (A : List LE) (k : Int) (u : Value) (gs : List (Value × List gX)) : MH (FB A k u gs) = zD (MH A) k (Iz gs) := by
  funext j
  unfold MH FB zD
  rw [List.find?_append]
  by_cases hj : j = k
  · subst hj
    rw [if_pos rfl, List.find?_eq_none.2 (by intro x hx; simp at hx; simpa using hx.2)]
    simp
  · rw [if_neg hj, List.find?_filter]
    have h1 : (fun a : LE => decide (a.1 != k ∧ (a.1 == j) = true)) = fun a : LE => a.1 == j := by
      funext a
      by_cases ha : a.1 = j
      · simp [ha, hj]
      · simp [ha]
    have h2 : (fun a : LE => (a.1 != k) && (a.1 == j)) = fun a : LE => a.1 == j := by
      funext a
      by_cases ha : a.1 = j
      · simp [ha, hj]
      · simp [ha]
    have h3 : ([(k, u, gs)] : List LE).find? (fun x => x.1 == j) = none := by
      rw [List.find?_eq_none]; intro x hx; rw [List.mem_singleton.1 hx]; simpa using Ne.symm hj
    first
      | rw [h3, Option.or_none, h2]
      | rw [h3, Option.or_none, h1]
      | (simp only [h3, Option.or_none, h2, h1])
theorem aiz {A : List LE} {k : Int} {i : Nat} (hi : i < A.length) (hn : ∀ j, j < i → (A.getD j default).1 ≠ k) (he : (A.getD i default).1 = k) : MH A k = Iz (A.getD i default).2.2 := by
  induction A generalizing i with
  | nil => simp at hi
  | cons x r ih =>
    unfold MH
    rw [List.find?_cons]
    cases i with
    | zero =>
      have : x.1 = k := he
      rw [show (x.1 == k) = true from by simpa using this]; rfl
    | succ m =>
      have h0 : x.1 ≠ k := hn 0 (by omega)
      rw [show (x.1 == k) = false from by simpa using h0]
      exact ih (i := m) (by simpa using hi) (fun j hj => hn (j + 1) (by omega)) he
theorem aeB {A : List LE} {k : Int} (hn : ∀ j, j < A.length → (A.getD j default).1 ≠ k) : MH A k = [] := by
  unfold MH
  rw [List.find?_eq_none.2]
  · rfl
  · intro x hx
    obtain ⟨j, hj, rfl⟩ := List.getElem_of_mem hx
    have := hn j hj
    rw [List.getD_eq_getElem?_getD, List.getElem?_eq_getElem hj] at this
    simpa using this
theorem TN : ∀ (n : Nat) (l : List Int), l.Nodup → (∀ x ∈ l, 0 ≤ x ∧ x < n) → l.length ≤ n
  | 0, l, _, h => by
    cases l with
    | nil => simp
    | cons x r => have := h x (List.mem_cons_self ..); omega
  | n + 1, l, hn, h => by
    have h1 : (l.erase (n : Int)).length ≤ n := TN n (l.erase n) (hn.erase _) (fun x hx => by
      have hm := (List.Nodup.mem_erase_iff hn).1 hx
      have := h x hm.2
      have := hm.1
      omega)
    have h2 : l.length ≤ (l.erase (n : Int)).length + 1 := by rw [List.length_erase]; split <;> omega
    omega
theorem XL (A : List LE) (k : Int) (u : Value) (gs : List (Value × List gX)) : (FB A k u gs).map (·.1) = (A.map (·.1)).filter (· != k) ++ [k] := by
  unfold FB
  rw [List.map_append, List.filter_map]; rfl
theorem agn {A : List LE} {n : Int} {k : Int} {u : Value} {gs : List (Value × List gX)} (h : (A.map (·.1)).Nodup ∧ ∀ x ∈ A.map (·.1), 0 ≤ x ∧ x ≤ n) (hk : 0 ≤ k ∧ k ≤ n) :
    ((FB A k u gs).map (·.1)).Nodup ∧ ∀ x ∈ (FB A k u gs).map (·.1), 0 ≤ x ∧ x ≤ n := by
  rw [XL]
  refine ⟨List.nodup_append.2 ⟨h.1.filter _, by simp, fun a ha b hb => ?_⟩, fun x hx => ?_⟩
  · rw [List.mem_singleton.1 hb]
    have := (List.mem_filter.1 ha).2
    simpa using this
  · rcases List.mem_append.1 hx with hx | hx
    · exact h.2 x (List.mem_filter.1 hx).1
    · rw [List.mem_singleton.1 hx]; exact hk
theorem ZE {A : List LE} {n : Int} (h : (A.map (·.1)).Nodup ∧ ∀ x ∈ A.map (·.1), 0 ≤ x ∧ x ≤ n) (hn : 0 ≤ n ∧ n ≤ 4096) : A.length ≤ 4097 := by
  have := TN (n.toNat + 1) _ h.1 (fun x hx => by have := h.2 x hx; omega)
  rw [List.length_map] at this
  omega
section
variable {w0 w : World} {F : HP} {v u pv gv : Value} {n sz k : Nat} {xs : List Value} {es : List gX} {gs : List (Value × List gX)} {A : List LE} {x : LE}
theorem V.wz (H : V w0 w (Bl sz v n xs • F)) : Rd w sz v n xs := let ⟨I, h, hI⟩ := H.yL; h.rd hI
theorem V.aeC (H : V w0 w (Bl sz v n xs • F)) : V w0 w (Bl sz v n xs • Bl sz v n xs • F) := H.wR
theorem V.ZF (H : V w0 w F) (a : Option Addr) : V w0 w (Bl sz (.slice a 0 0) 0 [] • F) := H.BU fun I => ⟨by simp, a, 0, rfl, by omega, by decide, fun h => by omega⟩
theorem V.MI {t : TypeId} (H : V w0 w (Row t sz v n xs • F)) : V w0 w (Bl sz v n xs • F) := by
  have hl := H.rJ
  rcases H.xZ with ⟨a, rfl, h1, h2, H1⟩ | ⟨g, o, c, cur, rfl, h2, h3, h4, h5, H1⟩
  · subst h1; exact H1.BU fun I => ⟨hl, a, 0, rfl, by omega, by decide, fun h => by omega⟩
  · exact H1.freeze.JD (vG (fun I hI => ⟨hl, _, c, rfl, h2, h3, fun _ => ⟨g, o, cur, _, (0, 0), rfl, hI, h5⟩⟩) F)
theorem V.aaN (H : V w0 w (glK v gs • F)) : V w0 w (Bl 1 v gs.length (gs.map (·.1)) • tN gs • F) := H.flat
theorem V.agp (H : V w0 w F) (a : Option Addr) : V w0 w (glK (.slice a 0 0) [] • F) := V.deep (H.OY.ZF (sz := 1) a)
theorem V.IB (H : V w0 w (JI v gs • F)) : V w0 w (glK v gs • F) := V.deep (H.afv.MI)
theorem V.aaO {p : Int} (H : V w0 w (xX A • F)) (hk : k < A.length) (hx : A.getD k default = (p, v, gs)) : V w0 w (Bl 1 v gs.length (gs.map (·.1)) • tN gs • xX A • F) := by
  have H2 : V w0 w (Bl 1 (A.getD k default).2.1 (A.getD k default).2.2.length ((A.getD k default).2.2.map (·.1)) • xX A • xX A • F) := H.wR.wR.JD (vG (fun I h => (h k hk).1) _)
  have H3 : V w0 w (tN (A.getD k default).2.2 • Bl 1 (A.getD k default).2.1 (A.getD k default).2.2.length ((A.getD k default).2.2.map (·.1)) • xX A • F) := H2.f2.JD (vG (fun I h => (h k hk).2) _)
  rw [hx] at H3
  exact H3.f2
theorem agl.set {I : Hp} {p : Int} (h : agl I A) (g : GlI I u gs) : agl I (FB A p u gs) := by
  have hm : ∀ x ∈ A, GlI I x.2.1 x.2.2 := fun x hx => by
    obtain ⟨j, hj, rfl⟩ := List.getElem_of_mem hx
    have := h j hj
    rwa [List.getD_eq_getElem?_getD, List.getElem?_eq_getElem hj] at this
  have hm2 : ∀ x ∈ FB A p u gs, GlI I x.2.1 x.2.2 := fun x hx => by
    rcases List.mem_append.1 hx with hx | hx
    · exact hm x (List.mem_filter.1 hx).1
    · rw [List.mem_singleton.1 hx]; exact g
  intro j hj
  rw [List.getD_eq_getElem?_getD, List.getElem?_eq_getElem hj]
  exact hm2 _ (List.getElem_mem hj)
theorem V.aeD {p : Int} (H : V w0 w (xX A • Bl 1 u gs.length (gs.map (·.1)) • tN gs • F)) : V w0 w (xX (FB A p u gs) • F) := by
  have H1 : V w0 w (know (fun I => GlI I u gs) (fun _ _ hl h => h.mono hl) • xX A • F) := (H.f3.f3 : V w0 w (Bl 1 u gs.length (gs.map (·.1)) • tN gs • xX A • F)).JD (vH (fun I h g => ⟨h, g⟩) _)
  exact H1.f2.JD (vH (fun I h g => h.set g) _)
theorem V.XM (H : V w0 w F) : V w0 w (xX [] • F) := H.BU fun I k hk => by simp at hk
theorem V.XO {k : IntKind} (H : V w0 w F) (a : Option Addr) : V w0 w (qZ k (.slice a 0 0) [] • F) := H.BU fun I => ⟨a, 0, rfl, by simp, by decide, fun h => by simp at h⟩
end
end Go.Proofs.YtpdeedplgmbopaaGreatDoor
end
section

end
section
namespace Go.Proofs.YtpdeedplgmbopaaGreatDoor
open Go.RowKit
section
variable {w0 w : World} {F : HP} {p : Nat} {L : List Int} {pt mk x : Int} {v : Value} {l : List Int}
end
section
variable {w0 w : World} {F : HP} {p : Nat} {L : List Int} {pt mk : Int} {v d s : Value} {l dl il : List Int} {i j a x : Int}
end
end Go.Proofs.YtpdeedplgmbopaaGreatDoor
end
section
namespace Go.Proofs.YtpdeedplgmbopaaGreatDoor
open Go.RowKit
open _root_.Go.Proofs.Tryz
section
variable {w0 w : World} {F : HP} {p place : Nat} {E ls : List (List Int)} {v x y : Value} {l m : List Int} {vs : List Value}
theorem aeE (H : V w0 w F) (h1 : jO w0 F .i32 x l) (h2 : jO w0 F .i32 y m) (hb : l.length + m.length ≤ 35184372088832) :
    jf prog 181 #[x, y] w fun v w' => V w0 w' (je 21 .i32 v (l ++ m) • F) := by
  refine qo func181 ntmps181 ?_
  refine kH O (kH O (bI O (bW O (kV (nH (l := []) (H.kF none) (h1 _ (H)) ah XD O O (by first | omega | (simp only [List.length_append, List.length_nil, List.length_cons]; omega) | (simp; omega)) (by first | omega | (simp only [List.length_append, List.length_nil, List.length_cons]; omega) | (simp; omega))) ?_))))
  rintro l1 w1 H1
  try simp only [List.nil_append] at H1
  refine fO O (bI O (bW O (kV (nH H1 (h2 _ (H1.right)) ah XD O O (by first | omega | (simp only [List.length_append, List.length_nil, List.length_cons]; omega) | (simp; omega)) (by first | omega | (simp only [List.length_append, List.length_nil, List.length_cons]; omega) | (simp; omega))) ?_)))
  rintro l2 w2 H2
  try simp only [List.nil_append] at H2
  refine fP O (dL results181 O ?_)
  simpa using H2
theorem abZ (H : V w0 w F) (h1 : jO w0 F .i32 x l) (hb : l.length ≤ 35184372088832) :
    jf prog 181 #[x, .slice none 0 0] w fun v w' => V w0 w' (je 21 .i32 v l • F) := by
  have := aeE H h1 (fun W _ => gB.nil W .i32 none 0 (by decide)) (by simpa using hb)
  simpa using this
def rO (p : Nat) (E : List (List Int)) (place : Nat) : HP := zX fun v => gJ p (.cells #[v, .int .i64 place] 176 (0, 0)) • LL 22 .i32 v E
theorem V.aj1 (H : V w0 w (rO p E place • F)) : ∃ v, V w0 w (gJ p (.cells #[v, .int .i64 place] 176 (0, 0)) • LL 22 .i32 v E • F) := let ⟨v, h⟩ := H.qY; ⟨v, h.flat⟩
theorem V.QF (H : V w0 w (gJ p (.cells #[v, .int .i64 place] 176 (0, 0)) • LL 22 .i32 v E • F)) : V w0 w (rO p E place • F) := V.kT v H.deep
theorem QG {α : Type _} {l : List α} {k : Nat} {d : α} (h : k < l.length) : l.take (k + 1) = l.take k ++ [l.getD k d] := by rw [List.take_succ_eq_append_getElem h, List.getD_eq_getElem?_getD, List.getElem?_eq_getElem h]; rfl
end
end Go.Proofs.YtpdeedplgmbopaaGreatDoor
end
section
namespace Go.Proofs.YtpdeedplgmbopaaGreatDoor
open Go.RowKit
def Bh (hl : List wY) (tx : Int → Option ByteArray) : List ByteArray := (List.range (hl.length + 1)).map fun (k : Nat) => lS hl tx (k : Int)
theorem MJ (hl : List wY) (tx : Int → Option ByteArray) : (Bh hl tx).length = hl.length + 1 := by simp [Bh]
theorem I7 (hl : List wY) : (uK hl).length = hl.length + 1 := by simp [uK]
theorem aeF {hl : List wY} {tx : Int → Option ByteArray} {k : Nat} (hk : k ≤ hl.length) : (Bh hl tx).getD k .empty = lS hl tx k := by
  unfold Bh
  rw [List.getD_eq_getElem?_getD, List.getElem?_map, List.getElem?_range (by omega)]; rfl
theorem aeG {hl : List wY} {k : Nat} (hk : k ≤ hl.length) : (uK hl).getD k .empty = FU hl k := by
  unfold uK FU V6
  by_cases h : k < hl.length
  · rw [if_pos (by omega), List.getD_eq_getElem?_getD, List.getElem?_append_left (by simpa using h), List.getElem?_map, List.getElem?_eq_getElem h]
    simp [List.getD_eq_getElem?_getD, h]
  · obtain rfl : k = hl.length := by omega
    rw [if_neg (by omega), List.getD_eq_getElem?_getD, List.getElem?_append_right (by simp)]
    simp
theorem QH (hl : List wY) : Bh hl (fun _ => none) = uK hl := by
  apply List.ext_getElem?
  intro k
  by_cases h : k ≤ hl.length
  · have h1 := aeF (tx := fun _ => none) h
    have h2 := aeG h
    rw [List.getD_eq_getElem?_getD, List.getElem?_eq_getElem (by rw [MJ]; omega)] at h1
    rw [List.getD_eq_getElem?_getD, List.getElem?_eq_getElem (by rw [I7]; omega)] at h2
    rw [List.getElem?_eq_getElem (by rw [MJ]; omega), List.getElem?_eq_getElem (by rw [I7]; omega)]
    simp only [Option.getD_some] at h1 h2
    rw [h1, h2]; rfl
  · rw [List.getElem?_eq_none (by rw [MJ]; omega), List.getElem?_eq_none (by rw [I7]; omega)]
def Ls (c : rC) : Prop := (∀ k, iK (c.un k) [] ≤ 16384 ∧ ∀ g ∈ c.un k, g ≠ []) ∧ (c.E.length ≤ 60 ∧ (c.at_ < c.E.length ∨ c.at_ = 0) ∧ ∀ e ∈ c.E, e.length ≤ 1024)
def RX (s : bQ) : Prop := Ls s.c ∧ (s.inn = true → Ls s.was ∧ s.c.last = s.was.last ∧ (s.mM = false → s.c.fr = s.was.fr ∧ s.c.to = s.was.to)) ∧ (s.inn = true → s.cls = 2 → s.mM = true)
def Aq (hl : List wY) (A : List LE) : Prop := (A.map (·.1)).Nodup ∧ ∀ x ∈ A.map (·.1), 0 ≤ x ∧ x ≤ (hl.length : Int)
def MK (pb pk : Nat) (wv nv pv gv : Value) (hl : List wY) (c : rC) : List Value := [.pointer (some ⟨pb, 0, none⟩), .pointer (some ⟨pk, 0, none⟩), wv, nv, .int .i64 c.place, .string (lS hl c.tx c.place), pv, gv, .int .i64 c.mode, .bool c.over, .int .i64 c.res, .bool c.run]
structure ROP where
  pb : Nat
  pk : Nat
  wv : Value
  nv : Value
  pv : Value
  gv : Value
  A : List LE
def Jd (inn : Bool) (hl : List wY) (c : rC) (u : List Value) : HP := if inn = true then zX fun (x : ROP) => fact (u = MK x.pb x.pk x.wv x.nv x.pv x.gv hl c ∧ MH x.A = c.un ∧ Aq hl x.A ∧ (u.all fun x => x.oneCell') = true) •
  uO x.pb c.L c.pt c.mark • rO x.pk c.E c.at_ • Bl 1 x.wv (hl.length + 1) (strs (uK hl)) • Row 9 1 x.nv (hl.length + 1) (strs (Bh hl c.tx)) • qZ .i64 x.pv (x.A.map (·.1)) • Bl 1 x.gv x.A.length (x.A.map (·.2.1)) • xX x.A else fact ((u.all fun x => x.oneCell') = true)
structure lU (s : bQ) (es : List gX) (A : List LE) (yf yt : Int) : Prop where
  ok : qE s
  rx : RX s
  says : es.map gX.says = s.put
  MH : MH A = s.c.un
  placed : Aq s.hl A
  Xd : s.inn = true → s.mM = true → yf = s.c.fr ∧ yt = s.c.to
structure RdP where
  h : Nat
  pb : Nat
  pk : Nat
  wv : Value
  nv : Value
  pv : Value
  gv : Value
  A : List LE
  nw : Value
  es : List gX
  yf : Int
  yt : Int
  ch : Bool
  u0 : Value
  u1 : Value
  u2 : Value
  u3 : Value
  u4 : Value
  u5 : Value
  u6 : Value
  u7 : Value
  u8 : Value
  u9 : Value
  ua : Value
  ub : Value
def wG (y : Nat) (s : bQ) : HP := zX fun (x : RdP) => match x with
  | ⟨h, pb, pk, wv, nv, pv, gv, A, nw, es, yf, yt, ch, u0, u1, u2, u3, u4, u5, u6, u7, u8, u9, ua, ub⟩ => fact (lU s es A yf yt) • gJ y (.cells (.pointer (some ⟨h, 0, none⟩) :: .pointer (some ⟨pb, 0, none⟩) :: .pointer (some ⟨pk, 0, none⟩) :: wv :: nv :: .int .i64 s.c.place :: .string (lS s.hl s.c.tx s.c.place) :: pv :: gv :: .int .i64 s.c.mode :: .bool s.c.over :: .int .i64 s.c.res :: .bool s.c.run :: u0 :: u1 :: u2 :: u3 :: u4 :: u5 :: u6 :: u7 :: u8 :: u9 :: ua :: ub :: .bool s.given :: .bool s.minus :: .int .i64 s.arg :: .int .i64 s.Ef :: .int .i64 s.frS :: .int .i64 s.toS :: .int .i64 s.lI :: .bool s.inn :: .int .i64 s.cls :: .int .i64 yf :: .int .i64 yt :: .bool s.argues :: .bool s.killed :: .bool s.mM :: nw :: .bool s.whole :: .bool ch :: []).toArray 174 (0, 0)) • uO pb s.c.L s.c.pt s.c.mark • rO pk s.c.E s.c.at_ • Bl 1 wv (s.hl.length + 1) (strs (uK s.hl)) • Row 9 1 nv (s.hl.length + 1) (strs (Bh s.hl s.c.tx)) • qZ .i64 pv (A.map (·.1)) • Bl 1 gv A.length (A.map (·.2.1)) • xX A • lY h s.hl s.base s.most • Row 189 3 nw s.put.length (es.flatMap gX.enc) • nD es • Jd s.inn s.hl s.was [u0, u1, u2, u3, u4, u5, u6, u7, u8, u9, ua, ub]
section
variable {w0 w : World} {F : HP} {y : Nat} {s : bQ}
theorem V.XP (H : V w0 w (wG y s • F)) : ∃ h pb pk wv nv pv gv A nw es yf yt ch u0 u1 u2 u3 u4 u5 u6 u7 u8 u9 ua ub, lU s es A yf yt ∧ es.length = s.put.length ∧ V w0 w (gJ y (.cells (.pointer (some ⟨h, 0, none⟩) :: .pointer (some ⟨pb, 0, none⟩) :: .pointer (some ⟨pk, 0, none⟩) :: wv :: nv :: .int .i64 s.c.place :: .string (lS s.hl s.c.tx s.c.place) :: pv :: gv :: .int .i64 s.c.mode :: .bool s.c.over :: .int .i64 s.c.res :: .bool s.c.run :: u0 :: u1 :: u2 :: u3 :: u4 :: u5 :: u6 :: u7 :: u8 :: u9 :: ua :: ub :: .bool s.given :: .bool s.minus :: .int .i64 s.arg :: .int .i64 s.Ef :: .int .i64 s.frS :: .int .i64 s.toS :: .int .i64 s.lI :: .bool s.inn :: .int .i64 s.cls :: .int .i64 yf :: .int .i64 yt :: .bool s.argues :: .bool s.killed :: .bool s.mM :: nw :: .bool s.whole :: .bool ch :: []).toArray 174 (0, 0)) • uO pb s.c.L s.c.pt s.c.mark • rO pk s.c.E s.c.at_ • Bl 1 wv (s.hl.length + 1) (strs (uK s.hl)) • Row 9 1 nv (s.hl.length + 1) (strs (Bh s.hl s.c.tx)) • qZ .i64 pv (A.map (·.1)) • Bl 1 gv A.length (A.map (·.2.1)) • xX A • lY h s.hl s.base s.most • Row 189 3 nw s.put.length (es.flatMap gX.enc) • nD es • Jd s.inn s.hl s.was [u0, u1, u2, u3, u4, u5, u6, u7, u8, u9, ua, ub] • F) := by
  obtain ⟨⟨h, pb, pk, wv, nv, pv, gv, A, nw, es, yf, yt, ch, u0, u1, u2, u3, u4, u5, u6, u7, u8, u9, ua, ub⟩, H⟩ := H.qY
  obtain ⟨h1, H⟩ := H.flat.fact
  refine ⟨h, pb, pk, wv, nv, pv, gv, A, nw, es, yf, yt, ch, u0, u1, u2, u3, u4, u5, u6, u7, u8, u9, ua, ub, h1, ?_, ?_⟩
  · rw [← h1.says]; simp
  · exact H.of_eq (by simp only [dY])
theorem V.zS {h pb pk : Nat} {wv nv pv gv : Value} {A : List LE} {nw : Value} {es : List gX} {yf yt : Int} {ch : Bool} {u0 u1 u2 u3 u4 u5 u6 u7 u8 u9 ua ub : Value} (h1 : lU s es A yf yt) (H : V w0 w (gJ y (.cells (.pointer (some ⟨h, 0, none⟩) :: .pointer (some ⟨pb, 0, none⟩) :: .pointer (some ⟨pk, 0, none⟩) :: wv :: nv :: .int .i64 s.c.place :: .string (lS s.hl s.c.tx s.c.place) :: pv :: gv :: .int .i64 s.c.mode :: .bool s.c.over :: .int .i64 s.c.res :: .bool s.c.run :: u0 :: u1 :: u2 :: u3 :: u4 :: u5 :: u6 :: u7 :: u8 :: u9 :: ua :: ub :: .bool s.given :: .bool s.minus :: .int .i64 s.arg :: .int .i64 s.Ef :: .int .i64 s.frS :: .int .i64 s.toS :: .int .i64 s.lI :: .bool s.inn :: .int .i64 s.cls :: .int .i64 yf :: .int .i64 yt :: .bool s.argues :: .bool s.killed :: .bool s.mM :: nw :: .bool s.whole :: .bool ch :: []).toArray 174 (0, 0)) • uO pb s.c.L s.c.pt s.c.mark • rO pk s.c.E s.c.at_ • Bl 1 wv (s.hl.length + 1) (strs (uK s.hl)) • Row 9 1 nv (s.hl.length + 1) (strs (Bh s.hl s.c.tx)) • qZ .i64 pv (A.map (·.1)) • Bl 1 gv A.length (A.map (·.2.1)) • xX A • lY h s.hl s.base s.most • Row 189 3 nw s.put.length (es.flatMap gX.enc) • nD es • Jd s.inn s.hl s.was [u0, u1, u2, u3, u4, u5, u6, u7, u8, u9, ua, ub] • F)) : V w0 w (wG y s • F) :=
  V.kT ⟨h, pb, pk, wv, nv, pv, gv, A, nw, es, yf, yt, ch, u0, u1, u2, u3, u4, u5, u6, u7, u8, u9, ua, ub⟩ (V.deep (V.oQ h1 (H.of_eq (by simp only [dY]))))
theorem ab0 {inn : Bool} {hl : List wY} {c : rC} {u : List Value} (H : V w0 w (Jd inn hl c u • F)) : (u.all fun x => x.oneCell') = true := by
  unfold Jd at H
  cases inn with
  | true =>
    rw [if_pos rfl] at H
    obtain ⟨x, H⟩ := H.qY
    exact H.flat.fact.1.2.2.2
  | false =>
    rw [if_neg (by decide)] at H
    exact H.fact.1
theorem V.Lu {hl : List wY} {c : rC} {u : List Value} (H : V w0 w F) (hu : (u.all fun x => x.oneCell') = true) : V w0 w (Jd false hl c u • F) := by
  unfold Jd
  rw [if_neg (by decide)]
  exact H.oQ hu
theorem V.alw {hl : List wY} {c : rC} {u : List Value} (H : V w0 w (Jd true hl c u • F)) : ∃ pb pk wv nv pv gv A, u = MK pb pk wv nv pv gv hl c ∧ MH A = c.un ∧ Aq hl A ∧ (u.all fun x => x.oneCell') = true ∧
    V w0 w (uO pb c.L c.pt c.mark • rO pk c.E c.at_ • Bl 1 wv (hl.length + 1) (strs (uK hl)) • Row 9 1 nv (hl.length + 1) (strs (Bh hl c.tx)) • qZ .i64 pv (A.map (·.1)) • Bl 1 gv A.length (A.map (·.2.1)) • xX A • F) := by
  unfold Jd at H
  rw [if_pos rfl] at H
  obtain ⟨⟨pb, pk, wv, nv, pv, gv, A⟩, H⟩ := H.qY
  obtain ⟨⟨h1, h2, h3, h4⟩, H⟩ := H.flat.fact
  exact ⟨pb, pk, wv, nv, pv, gv, A, h1, h2, h3, h4, H.of_eq (by simp only [dY])⟩
theorem V.agq {hl : List wY} {c : rC} {pb pk : Nat} {wv nv pv gv : Value} {A : List LE} (h2 : MH A = c.un) (h3 : Aq hl A) (H : V w0 w (uO pb c.L c.pt c.mark • rO pk c.E c.at_ • Bl 1 wv (hl.length + 1) (strs (uK hl)) • Row 9 1 nv (hl.length + 1) (strs (Bh hl c.tx)) • qZ .i64 pv (A.map (·.1)) • Bl 1 gv A.length (A.map (·.2.1)) • xX A • F)) : V w0 w (Jd true hl c (MK pb pk wv nv pv gv hl c) • F) := by
  have o1 := (H.f3).wz.one
  have o2 := (H.f4).aO.one
  have o3 := (H.f5).lK.one
  have o4 := (H.f6).wz.one
  have hu : ((MK pb pk wv nv pv gv hl c).all fun x => x.oneCell') = true := by
    unfold MK
    simp only [List.all_cons, List.all_nil, o1, o2, o3, o4, Bool.and_true, Bool.true_and]
    rfl
  unfold Jd
  rw [if_pos rfl]
  exact V.kT ⟨pb, pk, wv, nv, pv, gv, A⟩ (V.deep (V.oQ ⟨rfl, h2, h3, hu⟩ (H.of_eq (by simp only [dY]))))
end
section
variable {s : bQ} {es : List gX} {A : List LE} {yf yt : Int}
theorem lU.pR (h : lU s es A yf yt) (L : List Int) (p m : Int) : lU (s.pR L p m) es A yf yt := ⟨Dt h.ok _ _ _, h.rx, h.says, h.MH, h.placed, h.Xd⟩
theorem lU.begin (h : lU s es A yf yt) (hi : s.inn = false) : lU s.cZ [] A 0 0 := by
  have h1 := WI h.ok hi
  have h0 := h.rx.1
  have hl := h.MH
  have hq := h.placed
  rw [Dq hi] at h1 ⊢
  exact ⟨h1, ⟨h0, fun _ => ⟨h0, rfl, fun _ => ⟨rfl, rfl⟩⟩, fun _ h2 => absurd h2 (by show ¬ (0 : Int) = 2; decide)⟩, rfl, hl, hq, fun _ h2 => absurd h2 (by show ¬ false = true; decide)⟩
theorem TP {c : rC} (h : Ls c) {k : Int} {G : List (List jL)} (h1 : iK G [] ≤ 16384) (h2 : ∀ g ∈ G, g ≠ []) : Ls { c with un := zD c.un k G } := by
  refine ⟨fun j => ?_, h.2⟩
  show iK (zD c.un k G j) [] ≤ 16384 ∧ ∀ g ∈ zD c.un k G j, g ≠ []
  by_cases hj : j = k
  · subst hj; rw [jo]; exact ⟨h1, h2⟩
  · rw [zF _ _ hj]; exact h.1 j
theorem lU.more (h : lU s es A yf yt) (hin : s.inn = true) {x : jL} {e : gX} (he : e.says = x) (hx : 0 < x.2.1.length + x.2.2.length) (hok : Cj x) (hf : ¬ 16384 ≤ iK s.here s.put) : lU (s.vJ x) (es ++ [e]) A yf yt := by
  have h1 := UU (x := x) h.ok (fun _ => hok)
  rw [IU hx hf] at h1 ⊢
  exact ⟨h1, ⟨h.rx.1, h.rx.2.1, h.rx.2.2⟩, by rw [List.map_append, h.says, ← he]; rfl, h.MH, h.placed, h.Xd⟩
theorem lU.none (h : lU s es A yf yt) {x : jL} (hx : x.2.1.length + x.2.2.length = 0) : lU (s.vJ x) es A yf yt := by rw [Ia hx]; exact h
theorem LC (h : qE s) (hx : Ls s.c) (hp : s.put ≠ []) (on : Bool) : iK (s.jr on) [] ≤ 16384 ∧ (∀ g ∈ s.jr on, g ≠ []) ∧ ∀ g ∈ s.jr on, ∀ e ∈ g, Cj e := by
  obtain ⟨h1, h2, h3, h4, h5, h6⟩ := h
  have hs := tq s.here s.put
  have hne := (hx.1 s.c.place).2
  have h6' : ∀ g ∈ s.here, ∀ e ∈ g, Cj e := h6 s.c.place
  have key : ∀ (G : List (List jL)) (g : List jL), iK (G ++ [g]) [] ≤ iK s.here s.put → (∀ x ∈ G, x ∈ s.here) → (∀ e ∈ g, Cj e) → g ≠ [] →
      iK (G ++ [g]) [] ≤ 16384 ∧ (∀ x ∈ G ++ [g], x ≠ []) ∧ ∀ x ∈ G ++ [g], ∀ e ∈ x, Cj e := by
    intro G g a1 a2 a3 a4
    refine ⟨by omega, fun x hx => ?_, fun x hx => ?_⟩
    · rcases List.mem_append.1 hx with hx | hx
      · exact hne x (a2 x hx)
      · rw [List.mem_singleton.1 hx]; exact a4
    · rcases List.mem_append.1 hx with hx | hx
      · exact h6' x (a2 x hx)
      · rw [List.mem_singleton.1 hx]; exact a3
  unfold bQ.jr
  rw [if_neg hp]
  cases on with
  | false =>
    rw [if_neg (by decide)]
    exact key s.here s.put (by rw [KP]; omega) (fun x hx => hx) h4 hp
  | true =>
    rw [if_pos rfl]
    by_cases h0 : s.here = []
    · rw [h0]
      exact key [] s.put (by rw [KP, ac0]; omega) (fun x hx => by cases hx) h4 hp
    · rw [List.getLast?_eq_some_getLast h0]
      have hd := Cm h0
      have h2 : s.here.getLastD [] = s.here.getLast h0 := by rw [List.getLastD_eq_getLast?, List.getLast?_eq_some_getLast h0]; rfl
      rw [h2] at hd
      refine key s.here.dropLast (s.here.getLast h0 ++ s.put) ?_ (fun x hx => List.dropLast_subset _ hx) (fun e he => ?_) (fun he => hp (List.append_eq_nil_iff.1 he).2)
      · rw [KP, List.length_append, hs]
        unfold iK
        simp only [List.length_nil, Nat.add_zero]
        omega
      · rcases List.mem_append.1 he with he | he
        · exact h6' _ (List.getLast_mem h0) e he
        · exact h4 e he
theorem TQ (h : qE s) (hx : Ls s.c) (on : Bool) : qE (s.eX on) := by
  by_cases hp : s.put = []
  · rw [FY hp]; exact h
  · obtain ⟨f1, f2, f3⟩ := LC h hx hp on
    rw [pV hp]
    obtain ⟨h1, h2, h3, h4, h5, h6⟩ := h
    refine ⟨h1, h2, h3, by simp, ?_, fun k g hg => ?_⟩
    · show iK (zD s.c.un s.c.place (s.jr on) s.c.place) [] ≤ 16384
      rw [jo]; exact f1
    · have hg' : g ∈ zD s.c.un s.c.place (s.jr on) k := hg
      by_cases hk : k = s.c.place
      · subst hk; rw [jo] at hg'; exact f3 g hg'
      · rw [zF _ _ hk] at hg'; exact h6 k g hg'
theorem TR (h : qE s) (hx : RX s) (on : Bool) : RX (s.eX on) := by
  by_cases hp : s.put = []
  · rw [FY hp]; exact hx
  · obtain ⟨f1, f2, f3⟩ := LC h hx.1 hp on
    rw [pV hp]
    exact ⟨TP hx.1 f1 f2, hx.2.1, hx.2.2⟩
theorem lU.flush (h : lU s es A yf yt) {A' : List LE} (on : Bool) (hp : s.put ≠ []) (hA : _root_.Go.Proofs.YtpdeedplgmbopaaGreatDoor.MH A' = zD s.c.un s.c.place (s.jr on)) (hP : Aq s.hl A') : lU (s.eX on) [] A' yf yt := by
  have h1 := TQ h.ok h.rx.1 on
  have h2 := TR h.ok h.rx on
  rw [pV hp] at h1 h2 ⊢
  exact ⟨h1, h2, rfl, hA, hP, h.Xd⟩
theorem lU.sub (h : lU s es A yf yt) {G : List (List jL)} {A' : List LE} (h1 : iK G s.put ≤ iK s.here s.put) (h2 : ∀ g ∈ G, g ∈ s.here) (hA : _root_.Go.Proofs.YtpdeedplgmbopaaGreatDoor.MH A' = zD s.c.un s.c.place G) (hP : Aq s.hl A') : lU (s.lV G) es A' yf yt := by
  have ht := (h.rx.1.1 s.c.place).1
  have he : iK s.here s.put = iK s.here [] + s.put.length := tq _ _
  have hg : iK G s.put = iK G [] + s.put.length := tq _ _
  have hh : iK s.here [] ≤ 16384 := ht
  exact ⟨UZ h.ok h1 h2, ⟨TP h.rx.1 (by omega) (fun g hg => (h.rx.1.1 s.c.place).2 g (h2 g hg)), h.rx.2.1, h.rx.2.2⟩, h.says, hA, hP, h.Xd⟩
theorem ab1 (h : Ls s.c) : s.here.length ≤ 16384 := by
  have h1 := (h.1 s.c.place).1
  have h2 := (h.1 s.c.place).2
  have key : ∀ G : List (List jL), (∀ g ∈ G, g ≠ []) → G.length ≤ (G.map List.length).sum := by
    intro G hG
    induction G with
    | nil => simp
    | cons g r ih =>
      have := ih (fun x hx => hG x (List.mem_cons_of_mem _ hx))
      have h3 : 0 < g.length := List.length_pos_iff.2 (hG g (List.mem_cons_self ..))
      simp only [List.length_cons, List.map_cons, List.sum_cons]
      omega
  have h4 := key (s.c.un s.c.place) h2
  unfold iK at h1
  simp only [List.length_nil, Nat.add_zero] at h1
  exact Nat.le_trans h4 h1
theorem ZG {hl : List wY} {A : List LE} {k : Int} {u : Value} {gs : List (Value × List gX)} (h : Aq hl A) (hk : 0 ≤ k ∧ k ≤ hl.length) : Aq hl (FB A k u gs) := agn h hk
end
end Go.Proofs.YtpdeedplgmbopaaGreatDoor
end
section
namespace Go.Proofs.YtpdeedplgmbopaaGreatDoor
open Go.RowKit
open _root_.Go.Proofs.Tryz
theorem Vk {A : List LE} {i : Nat} (h : i < A.length) : (A.map (·.1)).getD i 0 = (A.getD i default).1 := by simp [List.getD_eq_getElem?_getD, h]
theorem aaP {A : List LE} {i : Nat} (h : i < A.length) : (A.map (·.2.1)).getD i undef = (A.getD i default).2.1 := by simp [List.getD_eq_getElem?_getD, h]
theorem TS {A : List LE} {p : LE → Bool} {i : Nat} (h : i < A.length) : (A.take (i + 1)).filter p = (A.take i).filter p ++ (if p (A.getD i default) then [A.getD i default] else []) := by
  rw [List.take_succ_eq_append_getElem h, List.filter_append, List.getD_eq_getElem?_getD, List.getElem?_eq_getElem h]
  simp only [Option.getD_some, List.filter_cons, List.filter_nil]
section
variable {w0 w : World} {F : HP} {y : Nat} {k : Int} {pv gv u : Value} {A : List LE} {gs : List (Value × List gX)}
theorem ZH {x0 x1 x2 x3 x4 x5 x6 x9 x10 x11 x12 BK x14 x15 x16 x17 x18 x19 x20 x21 Dn x23 x24 x25 Dp x27 x28 x29 x30 x31 x32 Eb x34 Vz VA VB x38 x39 x40 x41 : Value} (H : V w0 w (gJ y (.cells (x0 :: x1 :: x2 :: x3 :: x4 :: x5 :: x6 :: pv :: gv :: x9 :: x10 :: x11 :: x12 :: BK :: x14 :: x15 :: x16 :: x17 :: x18 :: x19 :: x20 :: x21 :: Dn :: x23 :: x24 :: x25 :: Dp :: x27 :: x28 :: x29 :: x30 :: x31 :: x32 :: Eb :: x34 :: Vz :: VA :: VB :: x38 :: x39 :: x40 :: x41 :: []).toArray 174 (0, 0)) • qZ .i64 pv (A.map (·.1)) • Bl 1 gv A.length (A.map (·.2.1)) • xX A • F)) : jf prog 155 #[.pointer (some ⟨y, 7, none⟩), .int .i64 k] w fun v' w' => ∃ gs, Iz gs = MH A k ∧
  V w0 w' (Bl 1 v' gs.length (gs.map (·.1)) • tN gs • gJ y (.cells (x0 :: x1 :: x2 :: x3 :: x4 :: x5 :: x6 :: pv :: gv :: x9 :: x10 :: x11 :: x12 :: BK :: x14 :: x15 :: x16 :: x17 :: x18 :: x19 :: x20 :: x21 :: Dn :: x23 :: x24 :: x25 :: Dp :: x27 :: x28 :: x29 :: x30 :: x31 :: x32 :: Eb :: x34 :: Vz :: VA :: VB :: x38 :: x39 :: x40 :: x41 :: []).toArray 174 (0, 0)) • qZ .i64 pv (A.map (·.1)) • Bl 1 gv A.length (A.map (·.2.1)) • xX A • F) := by
 have hpl : (A.map (·.1)).length = A.length := List.length_map _
 have hcap : (A.length : Int) ≤ 9223372036854775807 := by obtain ⟨_, a, c, _, h2, h3, _⟩ := (H.f3).wz; omega
 refine qo func155 ntmps155 ?_
 refine kH O (aI (kH O (bf ?_)))
 refine iy [(0, _), (1, _)] (fun (i : Nat) => [(5, .int .i64 (i : Int))]) (fun (i : Nat) W => (i ≤ A.length ∧ ∀ j, j < i → (A.getD j default).1 ≠ k) ∧ V w0 W (gJ y (.cells (x0 :: x1 :: x2 :: x3 :: x4 :: x5 :: x6 :: pv :: gv :: x9 :: x10 :: x11 :: x12 :: BK :: x14 :: x15 :: x16 :: x17 :: x18 :: x19 :: x20 :: x21 :: Dn :: x23 :: x24 :: x25 :: Dp :: x27 :: x28 :: x29 :: x30 :: x31 :: x32 :: Eb :: x34 :: Vz :: VA :: VB :: x38 :: x39 :: x40 :: x41 :: []).toArray 174 (0, 0)) • qZ .i64 pv (A.map (·.1)) • Bl 1 gv A.length (A.map (·.2.1)) • xX A • F)) (fun (i : Nat) => A.length - i) (0) sG lH ⟨⟨by omega, fun j hj => by omega⟩, H.f4.f4.f4.f4⟩ ?_
 rintro i w1 ⟨⟨hi, hne⟩, HL⟩
 dsimp only [List.cons_append, List.nil_append]
 refine aI (bI O (mX O O (bM 0 mV O sizeOf167 O (eH jT O (HL).get.2 O (aV (gZ ((HL.f2).lK) jT O) (aV (gG O O) (iW O (fun h1 => ?_) (fun h1 => ?_))))))))
 ·(try simp only [Z] at h1)
  refine gy (aI (bf (aI ?_)))
  have hil : i < A.length := by omega
  refine aF (mX O O (bM 0 mV O sizeOf167 O (eH jT O (HL).get.2 O (bW O ?_))))
  obtain ⟨bpv, opv, cpv, epv⟩ := gB.qN ((HL.f2).lK) (by omega)
  cases epv
  refine aV (dI jT aj O O (by omega)) ?_
  refine aV (dW (bV aA O) O (by first | exact gB.lN ((HL.f2).lK) (by omega) | exact gB.uP ((HL.f2).lK) (by omega) | exact gB.wO ((HL.f2).lK) (by omega))) ?_
  rw [Vk hil]
  refine bW O (aV (fB O O) (iW O (fun h2 => ?_) (fun h2 => ?_)))
  ·(try simp only [Z] at h2)
   have hek : (A.getD i default).1 = k := h2
   refine bI O (dV O (bM 1 mV O sizeOf168 O (eH ql O (HL).get.2 O (bW O ?_))))
   obtain ⟨bgv, ogv, cgv, egv⟩ := Rd.qN ((HL.f3).wz) (by omega)
   cases egv
   refine aV (dI ql iZ O O (by omega)) ?_
   refine aV (dW (bV cO O) O (by first | exact Rd.lN ((HL.f3).wz) (by omega) | exact Rd.uP ((HL.f3).wz) (by omega) | exact Rd.wO ((HL.f3).wz) (by omega))) ?_
   rw [aaP hil]
   have hat := aiz hil hne hek
   obtain ⟨xp, xv, xgs, hx⟩ : ∃ xp xv xgs, A.getD i default = (xp, xv, xgs) := ⟨_, _, _, rfl⟩
   rw [hx] at hat ⊢
   dsimp only at hat ⊢
   have Ho2 := HL.f4
   have Hc3 := Ho2.aaO hil hx
   refine fP O (aN (aC (aC (aN (aC (dL results155 O ?_))))))
   exact ⟨xgs, hat.symm, Hc3.f3.f6.f6.f6.f6.f6⟩
  ·(try simp only [Z] at h2)
   have hni : (A.getD i default).1 ≠ k := h2
   refine bU (aH (aU (aF (bW O (aV (fH O O (by omega)) (gW O (bT ?_)))))))
   refine dN (i + 1) ?_ ?_ ?_ ?_
   ·exact lH
   ·exact sG
   ·(try dsimp only)
    first | done | exact ⟨⟨by omega, fun j hj => (show j < i ∨ j = i from by omega).elim (hne j) (fun c => c ▸ hni)⟩, HL.f4.f4.f4.f4⟩
   ·(try dsimp only); omega
 ·(try simp only [Z] at h1)
  refine dR (aP (aP (bH (aU (aI ?_)))))
  obtain rfl : i = A.length := by omega
  refine aF (fP O (dL results155 O ?_))
  exact ⟨[], by rw [aeB hne]; rfl, ((HL.f4.f4.f4.f4).agp none).aaN⟩
theorem XQ {x0 x1 x2 x3 x4 x5 x6 x9 x10 x11 x12 BK x14 x15 x16 x17 x18 x19 x20 x21 Dn x23 x24 x25 Dp x27 x28 x29 x30 x31 x32 Eb x34 Vz VA VB x38 x39 x40 x41 : Value} (H : V w0 w (gJ y (.cells (x0 :: x1 :: x2 :: x3 :: x4 :: x5 :: x6 :: pv :: gv :: x9 :: x10 :: x11 :: x12 :: BK :: x14 :: x15 :: x16 :: x17 :: x18 :: x19 :: x20 :: x21 :: Dn :: x23 :: x24 :: x25 :: Dp :: x27 :: x28 :: x29 :: x30 :: x31 :: x32 :: Eb :: x34 :: Vz :: VA :: VB :: x38 :: x39 :: x40 :: x41 :: []).toArray 174 (0, 0)) • qZ .i64 pv (A.map (·.1)) • Bl 1 gv A.length (A.map (·.2.1)) • xX A • Bl 1 u gs.length (gs.map (·.1)) • tN gs • F)) (hA : A.length ≤ 4097) : jf prog 156 #[.pointer (some ⟨y, 7, none⟩), .int .i64 k, u] w fun _ w' => ∃ pv' gv',
  V w0 w' (gJ y (.cells (x0 :: x1 :: x2 :: x3 :: x4 :: x5 :: x6 :: pv' :: gv' :: x9 :: x10 :: x11 :: x12 :: BK :: x14 :: x15 :: x16 :: x17 :: x18 :: x19 :: x20 :: x21 :: Dn :: x23 :: x24 :: x25 :: Dp :: x27 :: x28 :: x29 :: x30 :: x31 :: x32 :: Eb :: x34 :: Vz :: VA :: VB :: x38 :: x39 :: x40 :: x41 :: []).toArray 174 (0, 0)) • qZ .i64 pv' ((FB A k u gs).map (·.1)) • Bl 1 gv' (FB A k u gs).length ((FB A k u gs).map (·.2.1)) • xX (FB A k u gs) • F) := by
 have hpl : (A.map (·.1)).length = A.length := List.length_map _
 have hfl : ∀ i, ((A.take i).filter fun x => x.1 != k).length ≤ A.length := fun i => Nat.le_trans (List.length_filter_le _ _) (by rw [List.length_take]; omega)
 have aj2 : ∀ i, (((A.take i).filter fun x => x.1 != k).map (·.1)).length = ((A.take i).filter fun x => x.1 != k).length := fun i => List.length_map _
 refine EU func156 ntmps156 ?_
 refine kH O (kH O (aI (kH O (bf ?_))))
 refine iy [(0, _), (1, _), (2, _)] (fun (⟨i, u1, u2⟩ : Nat × Value × Value) => [(6, u1), (7, u2), (8, .int .i64 (i : Int))]) (fun (⟨i, u1, u2⟩ : Nat × Value × Value) W => i ≤ A.length ∧ V w0 W (je 3 .i64 u1 (((A.take i).filter fun x => x.1 != k).map (·.1)) • Row 226 1 u2 ((A.take i).filter fun x => x.1 != k).length (((A.take i).filter fun x => x.1 != k).map (·.2.1)) • gJ y (.cells (x0 :: x1 :: x2 :: x3 :: x4 :: x5 :: x6 :: pv :: gv :: x9 :: x10 :: x11 :: x12 :: BK :: x14 :: x15 :: x16 :: x17 :: x18 :: x19 :: x20 :: x21 :: Dn :: x23 :: x24 :: x25 :: Dp :: x27 :: x28 :: x29 :: x30 :: x31 :: x32 :: Eb :: x34 :: Vz :: VA :: VB :: x38 :: x39 :: x40 :: x41 :: []).toArray 174 (0, 0)) • qZ .i64 pv (A.map (·.1)) • Bl 1 gv A.length (A.map (·.2.1)) • xX A • Bl 1 u gs.length (gs.map (·.1)) • tN gs • F)) (fun (⟨i, u1, u2⟩ : Nat × Value × Value) => A.length - i) ((0, .slice none 0 0, .slice none 0 0)) wW wW ⟨by omega, ((H.f6.f6.f6.f6.f6.f6).kF (e := 226) (sz := 1) none).kF none⟩ ?_
 rintro ⟨i, u1, u2⟩ w1 ⟨hi, HL⟩
 dsimp only [List.cons_append, List.nil_append]
 refine aI (bI O (mX O O (bM 0 mV O sizeOf167 O (eH jT O (HL.f3).get.2 O (aV (gZ ((HL.f4).lK) jT O) (aV (gG O O) (iW O (fun h1 => ?_) (fun h1 => ?_))))))))
 ·(try simp only [Z] at h1)
  refine gy (aI (bf (aI ?_)))
  have hil : i < A.length := by omega
  have hfi := hfl i
  have aj3 := aj2 i
  obtain ⟨xp, xv, xgs, hx⟩ : ∃ xp xv xgs, A.getD i default = (xp, xv, xgs) := ⟨_, _, _, rfl⟩
  refine aF (mX O O (bM 0 mV O sizeOf167 O (eH jT O (HL.f3).get.2 O (bW O ?_))))
  obtain ⟨bpv, opv, cpv, epv⟩ := gB.qN ((HL.f4).lK) (by omega)
  cases epv
  refine aV (dI jT aj O O (by omega)) ?_
  refine aV (dW (bV aA O) O (by first | exact gB.lN ((HL.f4).lK) (by omega) | exact gB.uP ((HL.f4).lK) (by omega) | exact gB.wO ((HL.f4).lK) (by omega))) ?_
  rw [Vk hil, hx]
  dsimp only
  refine bW O (aV (fF O O) (iW O (fun h2 => ?_) (fun h2 => ?_)))
  ·(try simp only [Z] at h2)
   have hne : ¬ xp = k := h2
   refine bI O (mX O O (bM 0 mV O sizeOf167 O (eH jT O (HL.f3).get.2 O (bW O (aV (dI jT aj O O (by omega)) ?_)))))
   refine aV (dW (bV aA O) O (by first | exact gB.lN ((HL.f4).lK) (by omega) | exact gB.uP ((HL.f4).lK) (by omega) | exact gB.wO ((HL.f4).lK) (by omega))) ?_
   rw [Vk hil, hx]
   dsimp only
   refine kV (nN (k := .i64) (l := [_]) HL jT aj zeroValue3 O O O (by decide)) ?_
   rintro l2 w2 H2
   refine kV (nH H2.f2 ((H2).aO) jT aj4 O O (by first | omega | (simp only [List.length_append, List.length_nil, List.length_cons]; omega) | (simp; omega)) (by first | omega | (simp only [List.length_append, List.length_nil, List.length_cons]; omega) | (simp; omega))) ?_
   rintro l3 w3 H3
   try simp only [List.nil_append] at H3
   refine fO O (aF (jU O O (dV O (bM 1 mV O sizeOf168 O (eH ql O (H3.f4).get.2 O (bW O ?_))))))
   obtain ⟨bgv, ogv, cgv, egv⟩ := Rd.qN ((H3.f6).wz) (by omega)
   cases egv
   refine aV (dI ql iZ O O (by omega)) ?_
   refine aV (dW (bV cO O) O (by first | exact Rd.lN ((H3.f6).wz) (by omega) | exact Rd.uP ((H3.f6).wz) (by omega) | exact Rd.wO ((H3.f6).wz) (by omega))) ?_
   rw [aaP hil, hx]
   dsimp only
   have Uu := H3.f7
   have Rj := Uu.aaO hil hx
   refine kV (nV (vs := [_]) Rj ql iZ zeroValue226 O O O (by decide) (bG (by first | rfl | exact Rd.one ((Rj).wz)) dn)) ?_
   rintro l6 w6 H6
   refine kV (jy H6.f7 ql aeH O O O ((H6).aO) (bG (by first | rfl | exact Rd.one ((H6.f2).wz)) dn) (by omega) (by omega)) ?_
   rintro l7 w7 H7
   have Hd8 := H7.f2.right
   refine gW O (bT (aH (aU (aF (bW O (aV (fH O O (by omega)) (gW O (bT ?_))))))))
   refine dN ((i + 1, l3, l7)) ?_ ?_ ?_ ?_
   ·exact wW
   ·exact wW
   ·(try dsimp only)
    first | done | exact ⟨by omega, by rw [TS hil, hx]; dsimp only; first | (rw [if_pos (by simpa using hne)]; simp only [List.map_append, List.length_append]; exact Hd8.f2.right.f2.right.f4.right.f8.f8.f4.f8.f8.f8.f7.f8) | (rw [if_neg (by simpa using heq), List.append_nil]; exact Hd8.f2.right.f2.right.f4.right.f8.f8.f4.f8.f8.f8.f7.f8)⟩
   ·(try dsimp only); omega
  ·(try simp only [Z] at h2)
   have heq : xp = k := by have h9 := h2; omega
   refine bU (aH (aU (aF (bW O (aV (fH O O (by omega)) (gW O (bT ?_)))))))
   refine dN ((i + 1, u1, u2)) ?_ ?_ ?_ ?_
   ·exact wW
   ·exact wW
   ·(try dsimp only)
    first | done | exact ⟨by omega, by rw [TS hil, hx]; dsimp only; first | (rw [if_pos (by simpa using hne)]; simp only [List.map_append, List.length_append]; exact HL.f8.f8.f8.f8.f8.f8.f8.f8) | (rw [if_neg (by simpa using heq), List.append_nil]; exact HL.f8.f8.f8.f8.f8.f8.f8.f8)⟩
   ·(try dsimp only); omega
 ·(try simp only [Z] at h1)
  refine dR (aP (aP (bH (aU ?_))))
  obtain rfl : i = A.length := by omega
  have HX := HL
  rw [List.take_length] at HX
  have hfi := hfl A.length
  have aj3 := aj2 A.length
  rw [List.take_length] at hfi aj3
  refine aF (jU O O (jU O O (kV (nN (k := .i64) (l := [_]) HX jT aj zeroValue3 O O O (by decide)) ?_)))
  rintro l9 w9 H9
  refine kV (nH H9.f2 ((H9).aO) jT aj4 O O (by first | omega | (simp only [List.length_append, List.length_nil, List.length_cons]; omega) | (simp; omega)) (by first | omega | (simp only [List.length_append, List.length_nil, List.length_cons]; omega) | (simp; omega))) ?_
  rintro l10 w10 pG
  try simp only [List.nil_append] at pG
  refine jU O O (kV (nV (vs := [_]) pG ql iZ zeroValue226 O O O (by decide) (bG (by first | rfl | exact Rd.one ((pG.f8).wz)) dn)) ?_)
  rintro l11 FK ru
  refine kV (jy ru.f4 ql aeH O O O ((ru).aO) (bG (by first | rfl | exact Rd.one ((ru.f9).wz)) dn) (by omega) (by omega)) ?_
  rintro l12 w12 wQ
  have aj5 := wQ.f2.right
  refine dV O (bM 0 mV O sizeOf167 O (aQ (ig 7 (l' := [_, _, _, _, _, _, _, _, _, _, _, _, _, _, _, _, _, _, _, _, _, _, _, _, _, _, _, _, _, _, _, _, _, _, _, _, _, _, _, _, _, _]) aj5.f4 sizeOf167 O O (by first | rfl | exact Rd.one ((aj5.f2).aO)) O O) ?_))
  rintro _ OG rU
  refine dV O (bM 1 mV O sizeOf168 O (aQ (ig 8 (l' := [_, _, _, _, _, _, _, _, _, _, _, _, _, _, _, _, _, _, _, _, _, _, _, _, _, _, _, _, _, _, _, _, _, _, _, _, _, _, _, _, _, _]) rU sizeOf168 O O (by first | rfl | exact Rd.one ((rU.f2).aO)) O O) ?_))
  rintro _ OM zV
  refine bT (oU (.inr O) results156 ?_)
  have hs1 : (FB A k u gs).map (·.1) = (A.filter fun x => x.1 != k).map (·.1) ++ [k] := by unfold FB; rw [List.map_append]; rfl
  have hs2 : (FB A k u gs).map (·.2.1) = (A.filter fun x => x.1 != k).map (·.2.1) ++ [u] := by unfold FB; rw [List.map_append]; rfl
  have hs3 : (FB A k u gs).length = (A.filter fun x => x.1 != k).length + 1 := by unfold FB; rw [List.length_append]; rfl
  have HQ := (zV.f4.right.f4.right.f4.right.f2.f3.f6.f6.f6).aeD (p := k) |>.f2.oC.f3.MI.f4.f3.f2
  exact ⟨_, _, by rw [hs1, hs2, hs3]; exact HQ⟩
end
end Go.Proofs.YtpdeedplgmbopaaGreatDoor
end
