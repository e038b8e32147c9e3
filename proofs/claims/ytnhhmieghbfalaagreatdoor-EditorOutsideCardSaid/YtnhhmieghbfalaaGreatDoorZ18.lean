import Derived.Test.YtnhhmieghbfalaaGreatDoorZ4
import Derived.Test.YtnhhmieghbfalaaGreatDoorZ14
import Derived.Test.YtnhhmieghbfalaaGreatDoorZ17
import Derived.Test.YtnhhmieghbfalaaGreatDoorZ7
import Derived.Test.YtnhhmieghbfalaaGreatDoorZ11
set_option linter.unusedSimpArgs false
set_option linter.unusedVariables false
/- Texts of mine, joined, their names in short: EdSt REdX RLs2 REdA REd0 EBoth0. -/
section
namespace Go.Proofs.YtnhhmieghbfalaaGreatDoor
open Go.RowKit
open _root_.Go.Proofs.Tryz
def aX.CX (s : aX) (l : List Int) : Int := if s.inn then 1 else if 1024 < l.length then 3 else 0
def aX.II (s : aX) (hl : List rM) (base most : Int) (l : List Int) : aX := if s.CX l = 0 then s.start hl base most l else s
theorem Y8 {s : aX} (h : ru s) (hi : s.inn = false) (hl : List rM) (base most : Int) (l : List Int) : ru (s.start hl base most l) := by
  obtain ⟨h1, h2, h3, h4, h5, h6⟩ := h
  refine ⟨YM _ _ _ _ _, fun h => absurd (show s.inn = true from h) (by rw [hi]; decide), ⟨by show (-1 : Int) ≤ -1; decide, by show (-1 : Int) ≤ 1000000; decide⟩, h4, ?_, by simp [aX.start, rV.fresh]⟩
  show iH [] s.put ≤ 16384
  unfold iH at *; simp at *; omega
section
variable {w0 w : World} {F : HP} {e p h pr : Nat} {s : aX} {hl : List rM} {base most m : Int} {v : Value} {l : List Int}
theorem WZ (H : V w0 w (gQ e s • jM h hl base most • F)) (hr : jZ w0 F .i32 v l) : iK prog 12 #[.pointer (some ⟨e, 0, none⟩), .pointer (some ⟨h, 0, none⟩), v] w fun v' w' =>
  v' = .int .i64 (s.CX l) ∧ V w0 w' (gQ e (s.II hl base most l) • jM h hl base most • F) := by
 unfold aX.II
 refine FY func12 ntmps12 ?_
 refine kG O (aI (bK (bT O (fH O func22 (zn H) ?_))))
 rintro _ _ ⟨rfl, rfl⟩
 refine cO O (bJ (cO O (bJ (fH O func63 (Bl H.f2) ?_))))
 rintro _ w2 ⟨q2, rfl, H2⟩
 refine bJ (aT (oQ oL O O) (kP O O (iU O (Kq O (fun h1 => ?_)))))
 (try simp only [aG] at h1)
 refine aI ?_
 have Hd3 := H2.right
 obtain ⟨vC, wF, wG, xC, wH, wI, wJ, wK, vF, rW, rX, rY, rZ, su, sD, sH, sJ, sK, sN, sO, gB, dF, kK, gG⟩ := (Hd3.f2).Gs
 refine aF (kY O O (bg 16 aj O aN O (dQ bn O (gG).get.2 O (iU O (dw O (fun h2 => ?_) (fun h2 => ?_))))))
 ·(try simp only [aG] at h2)
  have hin := h2
  have hE : s.CX l = 1 := by unfold aX.CX; rw [if_pos hin]
  refine jE O (aY (aC (dO results12 O ?_)))
  have LP := gG.f11.f11.f11.f11.f11.f11.f11.f11.f11.f11.f11
  have Ih := V.iC (s := s) gB dF LP
  exact ⟨by rw [hE], by rw [if_neg (by rw [hE]; decide)]; exact Ih.f2.f2⟩
 ·(try simp only [aG] at h2)
  have hin : s.inn = false := by simpa using h2
  refine bT O (aT (kT (hr _ (gG.right.right.right.right.right.right.right.right.right.right.right.right)) aB O) (aT (fZ O O) (iU O (dw O (fun h3 => ?_) (fun h3 => ?_)))))
  ·(try simp only [aG] at h3)
   have hbig := h3
   have hE : s.CX l = 3 := by unfold aX.CX; rw [if_neg (by simp [hin]), if_pos (by omega)]
   refine jE O (aY (aC (dO results12 O ?_)))
   have Ho9 := gG.f11.f11.f11.f11.f11.f11.f11.f11.f11.f11.f11
   have KL := V.iC (s := s) gB dF Ho9
   exact ⟨by rw [hE], by rw [if_neg (by rw [hE]; decide)]; exact KL.f2.f2⟩
  ·(try simp only [aG] at h3)
   have hE : s.CX l = 0 := by unfold aX.CX; rw [if_neg (by simp [hin]), if_neg (by have h9 := h3; omega)]
   have hsh : l.length ≤ 1024 := by have h9 := h3; omega
   refine eG (aS (aZ (bT O (ku O O (fH O func64 (Lc (E := s.c.E) (a := s.c.at_) gG.f2.right.f3.right.f3.right.f3.right.f3.right.f6.f6.f6.f6.f6.f7.f7 (fun W HW => hr W HW.right.right.right.right.right) hsh) ?_)))))
   rintro _ Ii ⟨qb, qw, qt, qm, qh, rE⟩
   refine iR (jE O (dO results12 O ?_))
   exact ⟨by rw [hE], by rw [if_pos hE]; exact V.iC (s := s.start hl base most l) (Y8 gB hin _ _ _ _) dF rE.f7.f12.f12.f12.f12.f11.f11.f11.f11.f12.f12.f12⟩
end
end Go.Proofs.YtnhhmieghbfalaaGreatDoor
end
section
namespace Go.Proofs.YtnhhmieghbfalaaGreatDoor
open Go.RowKit
section
variable {s : aX} {es : List gJ} {A : List LE} {yf yt : Int}
theorem aaN {E : List (List Int)} {a : Nat} {way : Int} {l : List Int} (h : E.length ≤ 60 ∧ (a < E.length ∨ a = 0) ∧ ∀ e ∈ E, e.length ≤ 1024) :
    (oN E a way l).2.1.length ≤ 60 ∧ ((oN E a way l).2.2 < (oN E a way l).2.1.length ∨ (oN E a way l).2.2 = 0) ∧ ∀ e ∈ (oN E a way l).2.1, e.length ≤ 1024 := by
  obtain ⟨h1, h2, h3⟩ := h
  unfold oN
  by_cases c1 : way < 0 ∨ 2 < way
  · rw [if_pos c1]; exact ⟨h1, h2, h3⟩
  rw [if_neg c1]
  by_cases c2 : 1024 < l.length
  · rw [if_pos c2]; exact ⟨h1, h2, h3⟩
  rw [if_neg c2]
  by_cases c3 : way ≠ 0 ∧ 0 < E.length
  · rw [if_pos c3]
    by_cases c4 : 1024 < l.length + (E.getD 0 []).length
    · rw [if_pos c4]; exact ⟨h1, h2, h3⟩
    · rw [if_neg c4]
      refine ⟨by show (_ :: E.tail).length ≤ 60; rw [zX c3.2]; exact h1, .inr rfl, fun e he => ?_⟩
      rcases List.mem_cons.1 he with he | he
      · rw [he]; split <;> rw [List.length_append] <;> omega
      · exact h3 e (List.mem_of_mem_tail he)
  rw [if_neg c3]
  by_cases c5 : way = 0 ∧ l.length = 0
  · rw [if_pos c5]; exact ⟨h1, h2, h3⟩
  rw [if_neg c5]
  refine ⟨by show ((l :: E).take 60).length ≤ 60; rw [List.length_take]; omega, .inr rfl, fun e he => ?_⟩
  rcases List.mem_cons.1 (List.mem_of_mem_take he) with he | he
  · rw [he]; omega
  · exact h3 e he
theorem iY.jw (h : iY s es A yf yt) (L : List Int) (p m : Int) : iY (s.jw L p m) es A yf yt := ⟨AP h.ok _ _ _, h.rx, h.says, h.Fv, h.placed, h.G9⟩
theorem iY.begin (h : iY s es A yf yt) (hi : s.inn = false) : iY s.dA [] A 0 0 := by
  have h1 := YO h.ok hi
  have h0 := h.rx.1
  have hl := h.Fv
  have hq := h.placed
  rw [EC hi] at h1 ⊢
  exact ⟨h1, ⟨h0, fun _ => ⟨h0, rfl, fun _ => ⟨rfl, rfl⟩⟩, fun _ h2 => absurd h2 (by show ¬ (0 : Int) = 2; decide)⟩, rfl, hl, hq, fun _ h2 => absurd h2 (by show ¬ false = true; decide)⟩
theorem OI {c : rV} (h : Nu c) {k : Int} {G : List (List jH)} (h1 : iH G [] ≤ 16384) (h2 : ∀ g ∈ G, g ≠ []) : Nu { c with un := um c.un k G } := by
  refine ⟨fun j => ?_, h.2⟩
  show iH (um c.un k G j) [] ≤ 16384 ∧ ∀ g ∈ um c.un k G j, g ≠ []
  by_cases hj : j = k
  · subst hj; rw [jv]; exact ⟨h1, h2⟩
  · rw [zi _ _ hj]; exact h.1 j
theorem iY.more (h : iY s es A yf yt) (hin : s.inn = true) {x : jH} {e : gJ} (he : e.says = x) (hx : 0 < x.2.1.length + x.2.2.length) (hok : BO x) (hf : ¬ 16384 ≤ iH s.here s.put) : iY (s.nI x) (es ++ [e]) A yf yt := by
  have h1 := QB (x := x) h.ok (fun _ => hok)
  rw [AU hx hf] at h1 ⊢
  exact ⟨h1, ⟨h.rx.1, h.rx.2.1, h.rx.2.2⟩, by rw [List.map_append, h.says, ← he]; rfl, h.Fv, h.placed, h.G9⟩
theorem iY.full (h : iY s es A yf yt) (hin : s.inn = true) {x : jH} {e : gJ} {A' : List LE} (he : e.says = x) (hx : 0 < x.2.1.length + x.2.2.length) (hok : BO x) (hf : 16384 ≤ iH s.here s.put)
    (hA : _root_.Go.Proofs.YtnhhmieghbfalaaGreatDoor.Fv A' = um s.c.un s.c.place []) (hP : BH s.hl A') : iY (s.nI x) [e] A' yf yt := by
  have h1 := QB (x := x) h.ok (fun _ => hok)
  rw [AV hx hf] at h1 ⊢
  exact ⟨h1, ⟨OI h.rx.1 (by decide) (by simp), h.rx.2.1, h.rx.2.2⟩, by rw [← he]; rfl, hA, hP, h.G9⟩
theorem iY.none (h : iY s es A yf yt) {x : jH} (hx : x.2.1.length + x.2.2.length = 0) : iY (s.nI x) es A yf yt := by rw [E5 hx]; exact h
theorem Nz (h : ru s) (hx : Nu s.c) (hp : s.put ≠ []) (on : Bool) : iH (s.jJ on) [] ≤ 16384 ∧ (∀ g ∈ s.jJ on, g ≠ []) ∧ ∀ g ∈ s.jJ on, ∀ e ∈ g, BO e := by
  obtain ⟨h1, h2, h3, h4, h5, h6⟩ := h
  have hs := pV s.here s.put
  have hne := (hx.1 s.c.place).2
  have h6' : ∀ g ∈ s.here, ∀ e ∈ g, BO e := h6 s.c.place
  have key : ∀ (G : List (List jH)) (g : List jH), iH (G ++ [g]) [] ≤ iH s.here s.put → (∀ x ∈ G, x ∈ s.here) → (∀ e ∈ g, BO e) → g ≠ [] →
      iH (G ++ [g]) [] ≤ 16384 ∧ (∀ x ∈ G ++ [g], x ≠ []) ∧ ∀ x ∈ G ++ [g], ∀ e ∈ x, BO e := by
    intro G g a1 a2 a3 a4
    refine ⟨by omega, fun x hx => ?_, fun x hx => ?_⟩
    · rcases List.mem_append.1 hx with hx | hx
      · exact hne x (a2 x hx)
      · rw [List.mem_singleton.1 hx]; exact a4
    · rcases List.mem_append.1 hx with hx | hx
      · exact h6' x (a2 x hx)
      · rw [List.mem_singleton.1 hx]; exact a3
  unfold aX.jJ
  rw [if_neg hp]
  cases on with
  | false =>
    rw [if_neg (by decide)]
    exact key s.here s.put (by rw [Ny]; omega) (fun x hx => hx) h4 hp
  | true =>
    rw [if_pos rfl]
    by_cases h0 : s.here = []
    · rw [h0]
      exact key [] s.put (by rw [Ny, aev]; omega) (fun x hx => by cases hx) h4 hp
    · rw [List.getLast?_eq_some_getLast h0]
      have hd := Ej h0
      have h2 : s.here.getLastD [] = s.here.getLast h0 := by rw [List.getLastD_eq_getLast?, List.getLast?_eq_some_getLast h0]; rfl
      rw [h2] at hd
      refine key s.here.dropLast (s.here.getLast h0 ++ s.put) ?_ (fun x hx => List.dropLast_subset _ hx) (fun e he => ?_) (fun he => hp (List.append_eq_nil_iff.1 he).2)
      · rw [Ny, List.length_append, hs]
        unfold iH
        simp only [List.length_nil, Nat.add_zero]
        omega
      · rcases List.mem_append.1 he with he | he
        · exact h6' _ (List.getLast_mem h0) e he
        · exact h4 e he
theorem OJ (h : ru s) (hx : Nu s.c) (on : Bool) : ru (s.dH on) := by
  by_cases hp : s.put = []
  · rw [CU hp]; exact h
  · obtain ⟨f1, f2, f3⟩ := Nz h hx hp on
    rw [qo hp]
    obtain ⟨h1, h2, h3, h4, h5, h6⟩ := h
    refine ⟨h1, h2, h3, by simp, ?_, fun k g hg => ?_⟩
    · show iH (um s.c.un s.c.place (s.jJ on) s.c.place) [] ≤ 16384
      rw [jv]; exact f1
    · have hg' : g ∈ um s.c.un s.c.place (s.jJ on) k := hg
      by_cases hk : k = s.c.place
      · subst hk; rw [jv] at hg'; exact f3 g hg'
      · rw [zi _ _ hk] at hg'; exact h6 k g hg'
theorem OL (h : ru s) (hx : RX s) (on : Bool) : RX (s.dH on) := by
  by_cases hp : s.put = []
  · rw [CU hp]; exact hx
  · obtain ⟨f1, f2, f3⟩ := Nz h hx.1 hp on
    rw [qo hp]
    exact ⟨OI hx.1 f1 f2, hx.2.1, hx.2.2⟩
theorem iY.flush (h : iY s es A yf yt) {A' : List LE} (on : Bool) (hp : s.put ≠ []) (hA : _root_.Go.Proofs.YtnhhmieghbfalaaGreatDoor.Fv A' = um s.c.un s.c.place (s.jJ on)) (hP : BH s.hl A') : iY (s.dH on) [] A' yf yt := by
  have h1 := OJ h.ok h.rx.1 on
  have h2 := OL h.ok h.rx on
  rw [qo hp] at h1 h2 ⊢
  exact ⟨h1, h2, rfl, hA, hP, h.G9⟩
theorem iY.sub (h : iY s es A yf yt) {G : List (List jH)} {A' : List LE} (h1 : iH G s.put ≤ iH s.here s.put) (h2 : ∀ g ∈ G, g ∈ s.here) (hA : _root_.Go.Proofs.YtnhhmieghbfalaaGreatDoor.Fv A' = um s.c.un s.c.place G) (hP : BH s.hl A') : iY (s.lY G) es A' yf yt := by
  have ht := (h.rx.1.1 s.c.place).1
  have he : iH s.here s.put = iH s.here [] + s.put.length := pV _ _
  have hg : iH G s.put = iH G [] + s.put.length := pV _ _
  have hh : iH s.here [] ≤ 16384 := ht
  exact ⟨WY h.ok h1 h2, ⟨OI h.rx.1 (by omega) (fun g hg => (h.rx.1.1 s.c.place).2 g (h2 g hg)), h.rx.2.1, h.rx.2.2⟩, h.says, hA, hP, h.G9⟩
theorem Vp (h : Nu s.c) : s.here.length ≤ 16384 := by
  have h1 := (h.1 s.c.place).1
  have h2 := (h.1 s.c.place).2
  have key : ∀ G : List (List jH), (∀ g ∈ G, g ≠ []) → G.length ≤ (G.map List.length).sum := by
    intro G hG
    induction G with
    | nil => simp
    | cons g r ih =>
      have := ih (fun x hx => hG x (List.mem_cons_of_mem _ hx))
      have h3 : 0 < g.length := List.length_pos_iff.2 (hG g (List.mem_cons_self ..))
      simp only [List.length_cons, List.map_cons, List.sum_cons]
      omega
  have h4 := key (s.c.un s.c.place) h2
  unfold iH at h1
  simp only [List.length_nil, Nat.add_zero] at h1
  exact Nat.le_trans h4 h1
theorem Tq (h : iY s es A yf yt) : s.here.length ≤ 16384 := Vp h.rx.1
theorem IJ {hl : List rM} {A : List LE} {k : Int} {u : Value} {gs : List (Value × List gJ)} (h : BH hl A) (hk : 0 ≤ k ∧ k ≤ hl.length) : BH hl (DW A k u gs) := agb h hk
end
end Go.Proofs.YtnhhmieghbfalaaGreatDoor
end
section
namespace Go.Proofs.YtnhhmieghbfalaaGreatDoor
open Go.RowKit
open _root_.Go.Proofs.Tryz
theorem W9 {A : List LE} {i : Nat} (h : i < A.length) : (A.map (·.1)).getD i 0 = (A.getD i default).1 := by simp [List.getD_eq_getElem?_getD, h]
theorem abX {A : List LE} {i : Nat} (h : i < A.length) : (A.map (·.2.1)).getD i undef = (A.getD i default).2.1 := by simp [List.getD_eq_getElem?_getD, h]
theorem Vq {A : List LE} {p : LE → Bool} {i : Nat} (h : i < A.length) : (A.take (i + 1)).filter p = (A.take i).filter p ++ (if p (A.getD i default) then [A.getD i default] else []) := by
  rw [List.take_succ_eq_append_getElem h, List.filter_append, List.getD_eq_getElem?_getD, List.getElem?_eq_getElem h]
  simp only [Option.getD_some, List.filter_cons, List.filter_nil]
section
variable {w0 w : World} {F : HP} {y : Nat} {k : Int} {pv gv u : Value} {A : List LE} {gs : List (Value × List gJ)}
theorem Fa {x0 x1 x2 x3 x4 x5 x6 x9 x10 x11 x12 yJ x14 x15 x16 x17 x18 x19 x20 x21 yO x23 x24 x25 yS x27 x28 x29 x30 x31 x32 yZ x34 Gn Gp Gq x38 x39 x40 x41 : Value} (H : V w0 w (gU y (.cells (x0 :: x1 :: x2 :: x3 :: x4 :: x5 :: x6 :: pv :: gv :: x9 :: x10 :: x11 :: x12 :: yJ :: x14 :: x15 :: x16 :: x17 :: x18 :: x19 :: x20 :: x21 :: yO :: x23 :: x24 :: x25 :: yS :: x27 :: x28 :: x29 :: x30 :: x31 :: x32 :: yZ :: x34 :: Gn :: Gp :: Gq :: x38 :: x39 :: x40 :: x41 :: []).toArray 58 (0, 0)) • uQ .i64 pv (A.map (·.1)) • yK 1 gv A.length (A.map (·.2.1)) • xU A • F)) : iK prog 118 #[.pointer (some ⟨y, 7, none⟩), .int .i64 k] w fun v' w' => ∃ gs, BG gs = Fv A k ∧
  V w0 w' (yK 1 v' gs.length (gs.map (·.1)) • vW gs • gU y (.cells (x0 :: x1 :: x2 :: x3 :: x4 :: x5 :: x6 :: pv :: gv :: x9 :: x10 :: x11 :: x12 :: yJ :: x14 :: x15 :: x16 :: x17 :: x18 :: x19 :: x20 :: x21 :: yO :: x23 :: x24 :: x25 :: yS :: x27 :: x28 :: x29 :: x30 :: x31 :: x32 :: yZ :: x34 :: Gn :: Gp :: Gq :: x38 :: x39 :: x40 :: x41 :: []).toArray 58 (0, 0)) • uQ .i64 pv (A.map (·.1)) • yK 1 gv A.length (A.map (·.2.1)) • xU A • F) := by
 have hpl : (A.map (·.1)).length = A.length := List.length_map _
 have hcap : (A.length : Int) ≤ 9223372036854775807 := by obtain ⟨_, a, c, _, h2, h3, _⟩ := (H.f3).oC; omega
 refine nO func118 ntmps118 ?_
 refine kG O (aI (kG O (bK ?_)))
 refine jh [(0, _), (1, _)] (fun (i : Nat) => [(5, .int .i64 (i : Int))]) (fun (i : Nat) W => (i ≤ A.length ∧ ∀ j, j < i → (A.getD j default).1 ≠ k) ∧ V w0 W (gU y (.cells (x0 :: x1 :: x2 :: x3 :: x4 :: x5 :: x6 :: pv :: gv :: x9 :: x10 :: x11 :: x12 :: yJ :: x14 :: x15 :: x16 :: x17 :: x18 :: x19 :: x20 :: x21 :: yO :: x23 :: x24 :: x25 :: yS :: x27 :: x28 :: x29 :: x30 :: x31 :: x32 :: yZ :: x34 :: Gn :: Gp :: Gq :: x38 :: x39 :: x40 :: x41 :: []).toArray 58 (0, 0)) • uQ .i64 pv (A.map (·.1)) • yK 1 gv A.length (A.map (·.2.1)) • xU A • F)) (fun (i : Nat) => A.length - i) (0) vV rJ ⟨⟨by omega, fun j hj => by omega⟩, H.f4.f4.f4.f4⟩ ?_
 rintro i w1 ⟨⟨hi, hne⟩, HL⟩
 dsimp only [List.cons_append, List.nil_append]
 refine aI (bT O (kY O O (bg 0 pJ O sizeOf50 O (dQ mg O (HL).get.2 O (aT (kT ((HL.f2).o9) mg O) (aT (fJ O O) (jo O (fun h1 => ?_) (fun h1 => ?_))))))))
 ·(try simp only [aG] at h1)
  refine gX (aI (bK (aI ?_)))
  have hil : i < A.length := by omega
  refine aF (kY O O (bg 0 pJ O sizeOf50 O (dQ mg O (HL).get.2 O (cO O ?_))))
  obtain ⟨bpv, opv, cpv, epv⟩ := mP.qX ((HL.f2).o9) (by omega)
  cases epv
  refine aT (dP mg ah O O (by omega)) ?_
  refine aT (fB (dG ay O) O (by first | exact mP.yc ((HL.f2).o9) (by omega) | exact mP.I8 ((HL.f2).o9) (by omega) | exact mP.Ib ((HL.f2).o9) (by omega))) ?_
  rw [W9 hil]
  refine cO O (aT (fA O O) (jo O (fun h2 => ?_) (fun h2 => ?_)))
  ·(try simp only [aG] at h2)
   have hek : (A.getD i default).1 = k := h2
   refine bT O (dM O (bg 1 pJ O sizeOf51 O (dQ tY O (HL).get.2 O (cO O ?_))))
   obtain ⟨bgv, ogv, cgv, egv⟩ := Rd.qX ((HL.f3).oC) (by omega)
   cases egv
   refine aT (dP tY jr O O (by omega)) ?_
   refine aT (fB (dG bP O) O (by first | exact Rd.yc ((HL.f3).oC) (by omega) | exact Rd.I8 ((HL.f3).oC) (by omega) | exact Rd.Ib ((HL.f3).oC) (by omega))) ?_
   rw [abX hil]
   have hat := ahL hil hne hek
   obtain ⟨xp, xv, xgs, hx⟩ : ∃ xp xv xgs, A.getD i default = (xp, xv, xgs) := ⟨_, _, _, rfl⟩
   rw [hx] at hat ⊢
   dsimp only at hat ⊢
   have Ho2 := HL.f4
   have Hc3 := Ho2.abK hil hx
   refine iJ O (aY (aC (aC (aY (aC (dO results118 O ?_))))))
   exact ⟨xgs, hat.symm, Hc3.f3.f6.f6.f6.f6.f6⟩
  ·(try simp only [aG] at h2)
   have hni : (A.getD i default).1 ≠ k := h2
   refine eG (aS (aZ (aF (cO O (aT (gY O O (by omega)) (lg O (dJ ?_)))))))
   refine fG (i + 1) ?_ ?_ ?_ ?_
   ·exact rJ
   ·exact vV
   ·(try dsimp only)
    first | done | exact ⟨⟨by omega, fun j hj => (show j < i ∨ j = i from by omega).elim (hne j) (fun c => c ▸ hni)⟩, HL.f4.f4.f4.f4⟩
   ·(try dsimp only); omega
 ·(try simp only [aG] at h1)
  refine iZ (bC (bC (dK (aZ (aI ?_)))))
  obtain rfl : i = A.length := by omega
  refine aF (iJ O (dO results118 O ?_))
  exact ⟨[], by rw [aef hne]; rfl, ((HL.f4.f4.f4.f4).abJ none).Yt⟩
theorem JL {x0 x1 x2 x3 x4 x5 x6 x9 x10 x11 x12 yJ x14 x15 x16 x17 x18 x19 x20 x21 yO x23 x24 x25 yS x27 x28 x29 x30 x31 x32 yZ x34 Gn Gp Gq x38 x39 x40 x41 : Value} (H : V w0 w (gU y (.cells (x0 :: x1 :: x2 :: x3 :: x4 :: x5 :: x6 :: pv :: gv :: x9 :: x10 :: x11 :: x12 :: yJ :: x14 :: x15 :: x16 :: x17 :: x18 :: x19 :: x20 :: x21 :: yO :: x23 :: x24 :: x25 :: yS :: x27 :: x28 :: x29 :: x30 :: x31 :: x32 :: yZ :: x34 :: Gn :: Gp :: Gq :: x38 :: x39 :: x40 :: x41 :: []).toArray 58 (0, 0)) • uQ .i64 pv (A.map (·.1)) • yK 1 gv A.length (A.map (·.2.1)) • xU A • yK 1 u gs.length (gs.map (·.1)) • vW gs • F)) (hA : A.length ≤ 4097) : iK prog 119 #[.pointer (some ⟨y, 7, none⟩), .int .i64 k, u] w fun _ w' => ∃ pv' gv',
  V w0 w' (gU y (.cells (x0 :: x1 :: x2 :: x3 :: x4 :: x5 :: x6 :: pv' :: gv' :: x9 :: x10 :: x11 :: x12 :: yJ :: x14 :: x15 :: x16 :: x17 :: x18 :: x19 :: x20 :: x21 :: yO :: x23 :: x24 :: x25 :: yS :: x27 :: x28 :: x29 :: x30 :: x31 :: x32 :: yZ :: x34 :: Gn :: Gp :: Gq :: x38 :: x39 :: x40 :: x41 :: []).toArray 58 (0, 0)) • uQ .i64 pv' ((DW A k u gs).map (·.1)) • yK 1 gv' (DW A k u gs).length ((DW A k u gs).map (·.2.1)) • xU (DW A k u gs) • F) := by
 have hpl : (A.map (·.1)).length = A.length := List.length_map _
 have hfl : ∀ i, ((A.take i).filter fun x => x.1 != k).length ≤ A.length := fun i => Nat.le_trans (List.length_filter_le _ _) (by rw [List.length_take]; omega)
 have ajE : ∀ i, (((A.take i).filter fun x => x.1 != k).map (·.1)).length = ((A.take i).filter fun x => x.1 != k).length := fun i => List.length_map _
 refine FY func119 ntmps119 ?_
 refine kG O (kG O (aI (kG O (bK ?_))))
 refine jh [(0, _), (1, _), (2, _)] (fun (⟨i, u1, u2⟩ : Nat × Value × Value) => [(6, u1), (7, u2), (8, .int .i64 (i : Int))]) (fun (⟨i, u1, u2⟩ : Nat × Value × Value) W => i ≤ A.length ∧ V w0 W (kF 3 .i64 u1 (((A.take i).filter fun x => x.1 != k).map (·.1)) • Row 147 1 u2 ((A.take i).filter fun x => x.1 != k).length (((A.take i).filter fun x => x.1 != k).map (·.2.1)) • gU y (.cells (x0 :: x1 :: x2 :: x3 :: x4 :: x5 :: x6 :: pv :: gv :: x9 :: x10 :: x11 :: x12 :: yJ :: x14 :: x15 :: x16 :: x17 :: x18 :: x19 :: x20 :: x21 :: yO :: x23 :: x24 :: x25 :: yS :: x27 :: x28 :: x29 :: x30 :: x31 :: x32 :: yZ :: x34 :: Gn :: Gp :: Gq :: x38 :: x39 :: x40 :: x41 :: []).toArray 58 (0, 0)) • uQ .i64 pv (A.map (·.1)) • yK 1 gv A.length (A.map (·.2.1)) • xU A • yK 1 u gs.length (gs.map (·.1)) • vW gs • F)) (fun (⟨i, u1, u2⟩ : Nat × Value × Value) => A.length - i) ((0, .slice none 0 0, .slice none 0 0)) DK DK ⟨by omega, ((H.f6.f6.f6.f6.f6.f6).iV (e := 147) (sz := 1) none).iV none⟩ ?_
 rintro ⟨i, u1, u2⟩ w1 ⟨hi, HL⟩
 dsimp only [List.cons_append, List.nil_append]
 refine aI (bT O (kY O O (bg 0 pJ O sizeOf50 O (dQ mg O (HL.f3).get.2 O (aT (kT ((HL.f4).o9) mg O) (aT (fJ O O) (jo O (fun h1 => ?_) (fun h1 => ?_))))))))
 ·(try simp only [aG] at h1)
  refine gX (aI (bK (aI ?_)))
  have hil : i < A.length := by omega
  have hfi := hfl i
  have ajF := ajE i
  obtain ⟨xp, xv, xgs, hx⟩ : ∃ xp xv xgs, A.getD i default = (xp, xv, xgs) := ⟨_, _, _, rfl⟩
  refine aF (kY O O (bg 0 pJ O sizeOf50 O (dQ mg O (HL.f3).get.2 O (cO O ?_))))
  obtain ⟨bpv, opv, cpv, epv⟩ := mP.qX ((HL.f4).o9) (by omega)
  cases epv
  refine aT (dP mg ah O O (by omega)) ?_
  refine aT (fB (dG ay O) O (by first | exact mP.yc ((HL.f4).o9) (by omega) | exact mP.I8 ((HL.f4).o9) (by omega) | exact mP.Ib ((HL.f4).o9) (by omega))) ?_
  rw [W9 hil, hx]
  dsimp only
  refine cO O (aT (fF O O) (jo O (fun h2 => ?_) (fun h2 => ?_)))
  ·(try simp only [aG] at h2)
   have hne : ¬ xp = k := h2
   refine bT O (kY O O (bg 0 pJ O sizeOf50 O (dQ mg O (HL.f3).get.2 O (cO O (aT (dP mg ah O O (by omega)) ?_)))))
   refine aT (fB (dG ay O) O (by first | exact mP.yc ((HL.f4).o9) (by omega) | exact mP.I8 ((HL.f4).o9) (by omega) | exact mP.Ib ((HL.f4).o9) (by omega))) ?_
   rw [W9 hil, hx]
   dsimp only
   refine jT (jV (k := .i64) (l := [_]) HL mg ah zeroValue3 O O O (by decide)) ?_
   rintro l2 w2 H2
   refine jT (eF H2.f2 ((H2).aJ) mg ajG O O (by first | omega | (simp only [List.length_append, List.length_nil, List.length_cons]; omega) | (simp; omega)) (by first | omega | (simp only [List.length_append, List.length_nil, List.length_cons]; omega) | (simp; omega))) ?_
   rintro l3 w3 H3
   try simp only [List.nil_append] at H3
   refine iU O (aF (ku O O (dM O (bg 1 pJ O sizeOf51 O (dQ tY O (H3.f4).get.2 O (cO O ?_))))))
   obtain ⟨bgv, ogv, cgv, egv⟩ := Rd.qX ((H3.f6).oC) (by omega)
   cases egv
   refine aT (dP tY jr O O (by omega)) ?_
   refine aT (fB (dG bP O) O (by first | exact Rd.yc ((H3.f6).oC) (by omega) | exact Rd.I8 ((H3.f6).oC) (by omega) | exact Rd.Ib ((H3.f6).oC) (by omega))) ?_
   rw [abX hil, hx]
   dsimp only
   have Rn := H3.f7
   have O6 := Rn.abK hil hx
   refine jT (mX (vs := [_]) O6 tY jr zeroValue147 O O O (by decide) (bD (by first | rfl | exact Rd.one ((O6).oC)) bW)) ?_
   rintro l6 w6 H6
   refine jT (gK H6.f7 tY aeI O O O ((H6).aJ) (bD (by first | rfl | exact Rd.one ((H6.f2).oC)) bW) (by omega) (by omega)) ?_
   rintro l7 w7 H7
   have Hd8 := H7.f2.right
   refine lg O (dJ (aS (aZ (aF (cO O (aT (gY O O (by omega)) (lg O (dJ ?_))))))))
   refine fG ((i + 1, l3, l7)) ?_ ?_ ?_ ?_
   ·exact DK
   ·exact DK
   ·(try dsimp only)
    first | done | exact ⟨by omega, by rw [Vq hil, hx]; dsimp only; first | (rw [if_pos (by simpa using hne)]; simp only [List.map_append, List.length_append]; exact Hd8.f2.right.f2.right.f4.right.f8.f8.f4.f8.f8.f8.f7.f8) | (rw [if_neg (by simpa using heq), List.append_nil]; exact Hd8.f2.right.f2.right.f4.right.f8.f8.f4.f8.f8.f8.f7.f8)⟩
   ·(try dsimp only); omega
  ·(try simp only [aG] at h2)
   have heq : xp = k := by have h9 := h2; omega
   refine eG (aS (aZ (aF (cO O (aT (gY O O (by omega)) (lg O (dJ ?_)))))))
   refine fG ((i + 1, u1, u2)) ?_ ?_ ?_ ?_
   ·exact DK
   ·exact DK
   ·(try dsimp only)
    first | done | exact ⟨by omega, by rw [Vq hil, hx]; dsimp only; first | (rw [if_pos (by simpa using hne)]; simp only [List.map_append, List.length_append]; exact HL.f8.f8.f8.f8.f8.f8.f8.f8) | (rw [if_neg (by simpa using heq), List.append_nil]; exact HL.f8.f8.f8.f8.f8.f8.f8.f8)⟩
   ·(try dsimp only); omega
 ·(try simp only [aG] at h1)
  refine iZ (bC (bC (dK (aZ ?_))))
  obtain rfl : i = A.length := by omega
  have HX := HL
  rw [List.take_length] at HX
  have hfi := hfl A.length
  have ajF := ajE A.length
  rw [List.take_length] at hfi ajF
  refine aF (ku O O (ku O O (jT (jV (k := .i64) (l := [_]) HX mg ah zeroValue3 O O O (by decide)) ?_)))
  rintro l9 w9 H9
  refine jT (eF H9.f2 ((H9).aJ) mg ajG O O (by first | omega | (simp only [List.length_append, List.length_nil, List.length_cons]; omega) | (simp; omega)) (by first | omega | (simp only [List.length_append, List.length_nil, List.length_cons]; omega) | (simp; omega))) ?_
  rintro l10 w10 rU
  try simp only [List.nil_append] at rU
  refine ku O O (jT (mX (vs := [_]) rU tY jr zeroValue147 O O O (by decide) (bD (by first | rfl | exact Rd.one ((rU.f8).oC)) bW)) ?_)
  rintro l11 Ii rE
  refine jT (gK rE.f4 tY aeI O O O ((rE).aJ) (bD (by first | rfl | exact Rd.one ((rE.f9).oC)) bW) (by omega) (by omega)) ?_
  rintro l12 w12 uP
  have aeJ := uP.f2.right
  refine dM O (bg 0 pJ O sizeOf50 O (aH (iw 7 (l' := [_, _, _, _, _, _, _, _, _, _, _, _, _, _, _, _, _, _, _, _, _, _, _, _, _, _, _, _, _, _, _, _, _, _, _, _, _, _, _, _, _, _]) aeJ.f4 sizeOf50 O O (by first | rfl | exact Rd.one ((aeJ.f2).aJ)) O O) ?_))
  rintro _ O9 BJ
  refine dM O (bg 1 pJ O sizeOf51 O (aH (iw 8 (l' := [_, _, _, _, _, _, _, _, _, _, _, _, _, _, _, _, _, _, _, _, _, _, _, _, _, _, _, _, _, _, _, _, _, _, _, _, _, _, _, _, _, _]) BJ sizeOf51 O O (by first | rfl | exact Rd.one ((BJ.f2).aJ)) O O) ?_))
  rintro _ Ry CJ
  refine dJ (nJ (.inr O) results119 ?_)
  have hs1 : (DW A k u gs).map (·.1) = (A.filter fun x => x.1 != k).map (·.1) ++ [k] := by unfold DW; rw [List.map_append]; rfl
  have hs2 : (DW A k u gs).map (·.2.1) = (A.filter fun x => x.1 != k).map (·.2.1) ++ [u] := by unfold DW; rw [List.map_append]; rfl
  have hs3 : (DW A k u gs).length = (A.filter fun x => x.1 != k).length + 1 := by unfold DW; rw [List.length_append]; rfl
  have HQ := (CJ.f4.right.f4.right.f4.right.f2.f3.f6.f6.f6).aeh (p := k) |>.f2.mM.f3.Oy.f4.f3.f2
  exact ⟨_, _, by rw [hs1, hs2, hs3]; exact HQ⟩
theorem Pz {x0 x1 x2 x3 x4 x5 x6 x9 x10 x11 x12 yJ x14 x15 x16 x17 x18 x19 x20 x21 yO x23 x24 x25 yS x27 x28 x29 x30 x31 x32 yZ x34 Gn Gp Gq x38 x39 x40 x41 : Value} (H : V w0 w (gU y (.cells (x0 :: x1 :: x2 :: x3 :: x4 :: x5 :: x6 :: pv :: gv :: x9 :: x10 :: x11 :: x12 :: yJ :: x14 :: x15 :: x16 :: x17 :: x18 :: x19 :: x20 :: x21 :: yO :: x23 :: x24 :: x25 :: yS :: x27 :: x28 :: x29 :: x30 :: x31 :: x32 :: yZ :: x34 :: Gn :: Gp :: Gq :: x38 :: x39 :: x40 :: x41 :: []).toArray 58 (0, 0)) • uQ .i64 pv (A.map (·.1)) • yK 1 gv A.length (A.map (·.2.1)) • xU A • F)) (hA : A.length ≤ 4097) : iK prog 119 #[.pointer (some ⟨y, 7, none⟩), .int .i64 k, .slice none 0 0] w fun _ w' => ∃ pv' gv',
    V w0 w' (gU y (.cells (x0 :: x1 :: x2 :: x3 :: x4 :: x5 :: x6 :: pv' :: gv' :: x9 :: x10 :: x11 :: x12 :: yJ :: x14 :: x15 :: x16 :: x17 :: x18 :: x19 :: x20 :: x21 :: yO :: x23 :: x24 :: x25 :: yS :: x27 :: x28 :: x29 :: x30 :: x31 :: x32 :: yZ :: x34 :: Gn :: Gp :: Gq :: x38 :: x39 :: x40 :: x41 :: []).toArray 58 (0, 0)) • uQ .i64 pv' ((DW A k (.slice none 0 0) []).map (·.1)) • yK 1 gv' (DW A k (.slice none 0 0) []).length ((DW A k (.slice none 0 0) []).map (·.2.1)) • xU (DW A k (.slice none 0 0) []) • F) :=
  JL (gs := []) (u := .slice none 0 0) (((H.abJ none).Yt).of_eq (by ac_rfl)) hA
end
theorem PD {w0 w : World} {F : HP} {p : Nat} {L : List Int} {pt mk : Int} (H : V w0 w (kC p L pt mk • F)) : iK prog 124 #[.pointer (some ⟨p, 0, none⟩)] w fun v w' => ∃ u, v = .agg (oU u pt mk) ∧ V w0 w' (kF 21 .i32 u L • kC p L pt mk • F) := by
  obtain ⟨a, c, g1, g2, g3, g4, g5, HB⟩ := H.ref
  refine iK.mono (Yx HB g1) fun v w' h => ?_
  obtain ⟨u, h1, h2⟩ := h
  exact ⟨u, h1, (V.mO g1 g2 g3 h2.f2.f3.f2).f2⟩
section
variable {w0 w : World} {F : HP} {y : Nat} {s : aX} {x : Int} {b : Bool}
theorem Xa (H : V w0 w (dY y s • F)) : iK prog 26 #[.pointer (some ⟨y, 0, none⟩), .int .i64 x] w fun v w' => v = .int .i64 (s.Ph x) ∧ V w0 w' (dY y (s.Aa x) • F) := by
 refine nO func26 ntmps26 ?_
 refine kG O (aI (aI ?_))
 obtain ⟨ED, tu, uo, uq, uw, wL, wM, EF, wO, wP, vJ, vK, wQ, uy, uz, uD, uF, uG, uH, uI, uJ, uK, uM, uN, uO, dS, lF, fU⟩ := (H).xq
 refine aF (kY O O (bg 32 aA O aN O (dQ bn O (fU).get.2 O (aT (jG O) (jo O (fun h1 => ?_) (fun h1 => ?_))))))
 ·(try simp only [aG] at h1)
  have hin : s.inn = false := by simpa using h1
  refine jE O (aC (dO results26 O ?_))
  have F9 := fU.f12.f12.f12.f12.f12.f12.f12.f12.f12.f12.f12.f12
  have Fq := V.fE (s := s) dS F9
  exact ⟨by simp [aX.Ph, aX.Aa, hin], by rw [show s.Aa x = s from by simp [aX.Ph, aX.Aa, hin]]; exact Fq⟩
 ·(try simp only [aG] at h1)
  have hin : s.inn = true := by simpa using h1
  refine gX (bT O (dM O (bg 1 aA O bZ O (bg 0 bf O kD O (dQ jf O (fU).get.2 O (cO O (fH O func85 (WG fU.f2) ?_)))))))
  rintro _ w5 ⟨rfl, H5⟩
  refine iJ O (dO results26 O ?_)
  exact ⟨by simp [aX.Ph, hin], by rw [show s.Aa x = s.jw s.c.L (mvP s.c.L.length s.c.pt x) s.c.mark from by simp [aX.Aa, hin]]; exact V.fE (s := s.jw s.c.L (mvP s.c.L.length s.c.pt x) s.c.mark) (dS.jw _ _ _) H5.f12.f12.f12.f12.f12.f12.f12.f12.f12.f12.f11.f12⟩
theorem Xb (H : V w0 w (dY y s • F)) : iK prog 28 #[.pointer (some ⟨y, 0, none⟩), .int .i64 x] w fun v w' => v = .int .i64 (s.Pj x) ∧ V w0 w' (dY y (s.BU x) • F) := by
 refine nO func28 ntmps28 ?_
 refine kG O (aI (aI ?_))
 obtain ⟨ED, tu, uo, uq, uw, wL, wM, EF, wO, wP, vJ, vK, wQ, uy, uz, uD, uF, uG, uH, uI, uJ, uK, uM, uN, uO, dS, lF, fU⟩ := (H).xq
 refine aF (kY O O (bg 32 aA O aN O (dQ bn O (fU).get.2 O (aT (jG O) (jo O (fun h1 => ?_) (fun h1 => ?_))))))
 ·(try simp only [aG] at h1)
  have hin : s.inn = false := by simpa using h1
  refine jE O (aC (dO results28 O ?_))
  have F9 := fU.f12.f12.f12.f12.f12.f12.f12.f12.f12.f12.f12.f12
  have Fq := V.fE (s := s) dS F9
  exact ⟨by simp [aX.Pj, aX.BU, hin], by rw [show s.BU x = s from by simp [aX.Pj, aX.BU, hin]]; exact Fq⟩
 ·(try simp only [aG] at h1)
  have hin : s.inn = true := by simpa using h1
  refine gX (bT O (dM O (bg 1 aA O bZ O (bg 0 bf O kD O (dQ jf O (fU).get.2 O (cO O (fH O func87 (Qk fU.f2) ?_)))))))
  rintro _ w5 ⟨rfl, H5⟩
  refine iJ O (dO results28 O ?_)
  exact ⟨by simp [aX.Pj, hin], by rw [show s.BU x = s.jw s.c.L s.c.pt (ZL s.c.L s.c.mark x) from by simp [aX.BU, hin]]; exact V.fE (s := s.jw s.c.L s.c.pt (ZL s.c.L s.c.mark x)) (dS.jw _ _ _) H5.f12.f12.f12.f12.f12.f12.f12.f12.f12.f12.f11.f12⟩
theorem Xc (H : V w0 w (dY y s • F)) : iK prog 30 #[.pointer (some ⟨y, 0, none⟩)] w fun v w' => v = .int .i64 s.Pm ∧ V w0 w' (dY y s.BX • F) := by
 refine jl func30 ntmps30 ?_
 refine kG O (aI (aI ?_))
 obtain ⟨ED, tu, uo, uq, uw, wL, wM, EF, wO, wP, vJ, vK, wQ, uy, uz, uD, uF, uG, uH, uI, uJ, uK, uM, uN, uO, dS, lF, fU⟩ := (H).xq
 refine aF (kY O O (bg 32 aA O aN O (dQ bn O (fU).get.2 O (aT (jG O) (jo O (fun h1 => ?_) (fun h1 => ?_))))))
 ·(try simp only [aG] at h1)
  have hin : s.inn = false := by simpa using h1
  refine jE O (aC (dO results30 O ?_))
  have F9 := fU.f12.f12.f12.f12.f12.f12.f12.f12.f12.f12.f12.f12
  have Fq := V.fE (s := s) dS F9
  exact ⟨by simp [aX.Pm, aX.BX, hin], by rw [show s.BX = s from by simp [aX.Pm, aX.BX, hin]]; exact Fq⟩
 ·(try simp only [aG] at h1)
  have hin : s.inn = true := by simpa using h1
  refine gX (bT O (dM O (bg 1 aA O bZ O (bg 0 bf O kD O (dQ jf O (fU).get.2 O (fH O func89 (WI fU.f2) ?_))))))
  rintro _ w5 ⟨rfl, H5⟩
  refine iJ O (dO results30 O ?_)
  exact ⟨by simp [aX.Pm, hin], by rw [show s.BX = s.jw s.c.L (swP s.c.pt s.c.mark) (swM s.c.pt s.c.mark) from by simp [aX.BX, hin]]; exact V.fE (s := s.jw s.c.L (swP s.c.pt s.c.mark) (swM s.c.pt s.c.mark)) (dS.jw _ _ _) H5.f12.f12.f12.f12.f12.f12.f12.f12.f12.f12.f11.f12⟩
theorem Uw (H : V w0 w (dY y s • F)) : iK prog 32 #[.pointer (some ⟨y, 0, none⟩), .int .i64 x] w fun v w' => v = .int .i64 (s.xR x) ∧ V w0 w' (dY y (s.zS x) • F) := by
 refine nO func32 ntmps32 ?_
 refine kG O (aI (aI ?_))
 obtain ⟨ED, tu, uo, uq, uw, wL, wM, EF, wO, wP, vJ, vK, wQ, uy, uz, uD, uF, uG, uH, uI, uJ, uK, uM, uN, uO, dS, lF, fU⟩ := (H).xq
 have harg := dS.ok.2.2.1
 refine aF (kY O O (bg 32 aA O aN O (dQ bn O (fU).get.2 O (aT (jG O) (nS O (fun h1 => ?_) (fun h1 => ?_))))))
 ·(try simp only [aG] at h1)
  refine dB (dB (mQ O O (cO O (dB (dB (mQ O O (iR (DZ (jE O (aC (dO results32 O ?_)))))))))))
  have hd : s.xR x = 1 := by
   unfold aX.xR
   by_cases hin : s.inn = true
   ·rw [if_pos hin, if_pos (by first | omega | (exfalso; simp_all))]
   ·rw [if_neg hin]
  have F9 := fU.f12.f12.f12.f12.f12.f12.f12.f12.f12.f12.f12.f12
  have Fq := V.fE (s := s) dS F9
  exact ⟨by rw [hd], by unfold aX.zS; rw [if_neg (by rw [hd]; decide)]; exact Fq⟩
 ·(try simp only [aG] at h1)
  refine bJ (cO O (bJ (aT (fJ O O) (kP O O (nS O (fun h2 => ?_) (fun h2 => ?_))))))
  ·(try simp only [aG] at h2)
   refine dB (dB (mQ O O (iR (DZ (jE O (aC (dO results32 O ?_)))))))
   have hd : s.xR x = 1 := by
    unfold aX.xR
    by_cases hin : s.inn = true
    ·rw [if_pos hin, if_pos (by first | omega | (exfalso; simp_all))]
    ·rw [if_neg hin]
   have LP := fU.f12.f12.f12.f12.f12.f12.f12.f12.f12.f12.f12.f12
   have Ih := V.fE (s := s) dS LP
   exact ⟨by rw [hd], by unfold aX.zS; rw [if_neg (by rw [hd]; decide)]; exact Ih⟩
  ·(try simp only [aG] at h2)
   refine bJ (cO O (bJ (aT (fZ O O) (kP O O (jo O (fun h3 => ?_) (fun h3 => ?_))))))
   ·(try simp only [aG] at h3)
    refine jE O (aC (dO results32 O ?_))
    have hd : s.xR x = 1 := by
     unfold aX.xR
     by_cases hin : s.inn = true
     ·rw [if_pos hin, if_pos (by first | omega | (exfalso; simp_all))]
     ·rw [if_neg hin]
    have Ho9 := fU.f12.f12.f12.f12.f12.f12.f12.f12.f12.f12.f12.f12
    have KL := V.fE (s := s) dS Ho9
    exact ⟨by rw [hd], by unfold aX.zS; rw [if_neg (by rw [hd]; decide)]; exact KL⟩
   ·(try simp only [aG] at h3)
    refine gX (aI ?_)
    have hin : s.inn = true := by first | assumption | (simp_all; done)
    have hd : s.xR x = 0 := by unfold aX.xR; rw [if_pos hin, if_neg (by omega)]
    refine aF (ku O O (dM O (bg 27 aA O ah O (dQ ay O (fU).get.2 O (aT (abo O O) (aT (agM O O (by omega)) (cO O (aT (gY O O (by omega)) (aT (QO O O) (dM O (bg 27 aA O ah O (aH (kU 27 fU ah) ?_))))))))))))
    rintro _ Ii rE
    refine qG O (kY O O (bg 25 aA O aN O (aH (kU 25 rE aN) ?_)))
    rintro _ w12 uP
    refine dM O (bg 36 aA O aN O (aH (kU 36 uP aN) ?_))
    rintro _ P7 AZ
    refine iR (jE O (dO results32 O ?_))
    rw [hd]
    refine ⟨O, ?_⟩
    unfold aX.zS
    rw [if_pos hd]
    exact V.fE (s := { s with given := true, argues := true, arg := min (max s.arg 0 * 10 + x) 1000000 }) ⟨⟨dS.ok.1, dS.ok.2.1, by dsimp only; omega, dS.ok.2.2.2⟩, dS.rx, dS.says, dS.Fv, dS.placed, dS.G9⟩ AZ.f12.f12.f12.f12.f12.f12.f12.f12.f12.f12.f12.f12
theorem Y9 (H : V w0 w (dY y s • F)) : iK prog 36 #[.pointer (some ⟨y, 0, none⟩)] w fun v w' => v = .int .i64 s.wB ∧ V w0 w' (dY y s.Np • F) := by
 refine jl func36 ntmps36 ?_
 refine kG O (aI (aI ?_))
 obtain ⟨ED, tu, uo, uq, uw, wL, wM, EF, wO, wP, vJ, vK, wQ, uy, uz, uD, uF, uG, uH, uI, uJ, uK, uM, uN, uO, dS, lF, fU⟩ := (H).xq
 refine aF (kY O O (bg 32 aA O aN O (dQ bn O (fU).get.2 O (aT (jG O) (jo O (fun h1 => ?_) (fun h1 => ?_))))))
 ·(try simp only [aG] at h1)
  have hin : s.inn = false := by simpa using h1
  refine jE O (aC (dO results36 O ?_))
  have F9 := fU.f12.f12.f12.f12.f12.f12.f12.f12.f12.f12.f12.f12
  have Fq := V.fE (s := s) dS F9
  exact ⟨by simp [aX.Np, aX.wB, hin], by rw [show s.Np = s from by simp [aX.Np, aX.wB, hin]]; exact Fq⟩
 ·(try simp only [aG] at h1)
  have hin : s.inn = true := by simpa using h1
  refine gX (bT O (kY O O (bg 26 aA O aN O (dQ bn O (fU).get.2 O (aT (jG O) (dM O (bg 26 aA O aN O (aH (kU 26 fU aN) ?_))))))))
  rintro _ w5 H5
  refine qG O (kY O O (bg 25 aA O aN O (aH (kU 25 H5 aN) ?_)))
  rintro _ w6 H6
  refine dM O (bg 36 aA O aN O (aH (kU 36 H6 aN) ?_))
  rintro _ w7 H7
  refine iR (jE O (dO results36 O ?_))
  exact ⟨by simp [aX.wB, hin], by unfold aX.Np; rw [if_pos hin]; exact V.fE (s := { s with given := true, argues := true, minus := !s.minus }) ⟨dS.ok, dS.rx, dS.says, dS.Fv, dS.placed, dS.G9⟩ H7.f12.f12.f12.f12.f12.f12.f12.f12.f12.f12.f12.f12⟩
theorem Za (H : V w0 w (dY y s • F)) : iK prog 38 #[.pointer (some ⟨y, 0, none⟩), .int .i64 x] w fun v w' => v = .int .i64 (s.GR x) ∧ V w0 w' (dY y (s.KH x) • F) := by
 refine nO func38 ntmps38 ?_
 refine kG O (aI (aI ?_))
 obtain ⟨ED, tu, uo, uq, uw, wL, wM, EF, wO, wP, vJ, vK, wQ, uy, uz, uD, uF, uG, uH, uI, uJ, uK, uM, uN, uO, dS, lF, fU⟩ := (H).xq
 refine aF (kY O O (bg 32 aA O aN O (dQ bn O (fU).get.2 O (aT (jG O) (nS O (fun h1 => ?_) (fun h1 => ?_))))))
 ·(try simp only [aG] at h1)
  refine dB (dB (mQ O O (cO O (dB (dB (mQ O O (iR (DZ (jE O (aC (dO results38 O ?_)))))))))))
  have hd : s.GR x = 1 := by
   unfold aX.GR
   by_cases hin : s.inn = true
   ·rw [if_pos hin, if_pos (by first | omega | (exfalso; simp_all))]
   ·rw [if_neg hin]
  have F9 := fU.f12.f12.f12.f12.f12.f12.f12.f12.f12.f12.f12.f12
  have Fq := V.fE (s := s) dS F9
  exact ⟨by rw [hd], by unfold aX.KH; rw [if_neg (by rw [hd]; decide)]; exact Fq⟩
 ·(try simp only [aG] at h1)
  refine bJ (cO O (bJ (aT (fZ O O) (kP O O (nS O (fun h2 => ?_) (fun h2 => ?_))))))
  ·(try simp only [aG] at h2)
   refine dB (dB (mQ O O (iR (DZ (jE O (aC (dO results38 O ?_)))))))
   have hd : s.GR x = 1 := by
    unfold aX.GR
    by_cases hin : s.inn = true
    ·rw [if_pos hin, if_pos (by first | omega | (exfalso; simp_all))]
    ·rw [if_neg hin]
   have LP := fU.f12.f12.f12.f12.f12.f12.f12.f12.f12.f12.f12.f12
   have Ih := V.fE (s := s) dS LP
   exact ⟨by rw [hd], by unfold aX.KH; rw [if_neg (by rw [hd]; decide)]; exact Ih⟩
  ·(try simp only [aG] at h2)
   refine bJ (cO O (bJ (aT (fJ O O) (kP O O (jo O (fun h3 => ?_) (fun h3 => ?_))))))
   ·(try simp only [aG] at h3)
    refine jE O (aC (dO results38 O ?_))
    have hd : s.GR x = 1 := by
     unfold aX.GR
     by_cases hin : s.inn = true
     ·rw [if_pos hin, if_pos (by first | omega | (exfalso; simp_all))]
     ·rw [if_neg hin]
    have Ho9 := fU.f12.f12.f12.f12.f12.f12.f12.f12.f12.f12.f12.f12
    have KL := V.fE (s := s) dS Ho9
    exact ⟨by rw [hd], by unfold aX.KH; rw [if_neg (by rw [hd]; decide)]; exact KL⟩
   ·(try simp only [aG] at h3)
    refine gX (aI ?_)
    have hin : s.inn = true := by first | assumption | (simp_all; done)
    have hd : s.GR x = 0 := by unfold aX.GR; rw [if_pos hin, if_neg (by omega)]
    refine aF (ku O O (aT (fJ O O) (dM O (bg 26 aA O aN O (aH (kU 26 fU aN) ?_)))))
    rintro _ Ii rE
    refine qG O (ku O O (aT (XM O (by omega)) (aT (abo O O) (dM O (bg 27 aA O ah O (aH (kU 27 rE ah) ?_))))))
    rintro _ w12 uP
    refine qG O (kY O O (bg 25 aA O aN O (aH (kU 25 uP aN) ?_)))
    rintro _ P7 AZ
    refine dM O (bg 36 aA O aN O (aH (kU 36 AZ aN) ?_))
    rintro _ O9 BJ
    refine iR (jE O (dO results38 O ?_))
    rw [hd]
    refine ⟨O, ?_⟩
    unfold aX.KH
    rw [if_pos hd]
    exact V.fE (s := { s with given := true, argues := true, minus := decide (x < 0), arg := max x (-x) }) ⟨⟨dS.ok.1, dS.ok.2.1, by dsimp only; omega, dS.ok.2.2.2⟩, dS.rx, dS.says, dS.Fv, dS.placed, dS.G9⟩ BJ.f12.f12.f12.f12.f12.f12.f12.f12.f12.f12.f12.f12
theorem Xd (H : V w0 w (dY y s • F)) : iK prog 40 #[.pointer (some ⟨y, 0, none⟩), .int .i64 x] w fun v w' => v = .int .i64 (s.Ac x) ∧ V w0 w' (dY y (s.BZ x) • F) := by
 refine nO func40 ntmps40 ?_
 refine kG O (aI (aI ?_))
 obtain ⟨ED, tu, uo, uq, uw, wL, wM, EF, wO, wP, vJ, vK, wQ, uy, uz, uD, uF, uG, uH, uI, uJ, uK, uM, uN, uO, dS, lF, fU⟩ := (H).xq
 refine aF (kY O O (bg 32 aA O aN O (dQ bn O (fU).get.2 O (aT (jG O) (nS O (fun h1 => ?_) (fun h1 => ?_))))))
 ·(try simp only [aG] at h1)
  refine dB (dB (mQ O O (cO O (dB (dB (mQ O O (iR (DZ (jE O (aC (dO results40 O ?_)))))))))))
  have hd : s.Ac x = 1 := by
   unfold aX.Ac
   by_cases hin : s.inn = true
   ·rw [if_pos hin, if_pos (by first | omega | (exfalso; simp_all))]
   ·rw [if_neg hin]
  have F9 := fU.f12.f12.f12.f12.f12.f12.f12.f12.f12.f12.f12.f12
  have Fq := V.fE (s := s) dS F9
  exact ⟨by rw [hd], by unfold aX.BZ; rw [if_neg (by rw [hd]; decide)]; exact Fq⟩
 ·(try simp only [aG] at h1)
  refine bJ (cO O (bJ (aT (fJ O O) (kP O O (nS O (fun h2 => ?_) (fun h2 => ?_))))))
  ·(try simp only [aG] at h2)
   refine dB (dB (mQ O O (iR (DZ (jE O (aC (dO results40 O ?_)))))))
   have hd : s.Ac x = 1 := by
    unfold aX.Ac
    by_cases hin : s.inn = true
    ·rw [if_pos hin, if_pos (by first | omega | (exfalso; simp_all))]
    ·rw [if_neg hin]
   have LP := fU.f12.f12.f12.f12.f12.f12.f12.f12.f12.f12.f12.f12
   have Ih := V.fE (s := s) dS LP
   exact ⟨by rw [hd], by unfold aX.BZ; rw [if_neg (by rw [hd]; decide)]; exact Ih⟩
  ·(try simp only [aG] at h2)
   refine bJ (cO O (bJ (aT (fZ O O) (kP O O (jo O (fun h3 => ?_) (fun h3 => ?_))))))
   ·(try simp only [aG] at h3)
    refine jE O (aC (dO results40 O ?_))
    have hd : s.Ac x = 1 := by
     unfold aX.Ac
     by_cases hin : s.inn = true
     ·rw [if_pos hin, if_pos (by first | omega | (exfalso; simp_all))]
     ·rw [if_neg hin]
    have Ho9 := fU.f12.f12.f12.f12.f12.f12.f12.f12.f12.f12.f12.f12
    have KL := V.fE (s := s) dS Ho9
    exact ⟨by rw [hd], by unfold aX.BZ; rw [if_neg (by rw [hd]; decide)]; exact KL⟩
   ·(try simp only [aG] at h3)
    refine gX (aI ?_)
    have hin : s.inn = true := by first | assumption | (simp_all; done)
    have hd : s.Ac x = 0 := by unfold aX.Ac; rw [if_pos hin, if_neg (by omega)]
    refine aF (ku O O (dM O (bg 1 aA O bZ O (bg 8 bf O ah O (aH (kU 9 fU ah) ?_)))))
    rintro _ Ii rE
    refine iR (jE O (dO results40 O ?_))
    rw [hd]
    refine ⟨O, ?_⟩
    unfold aX.BZ
    rw [if_pos hd]
    exact V.fE (s := { s with c := { s.c with mode := x } }) ⟨dS.ok, dS.rx, dS.says, dS.Fv, dS.placed, dS.G9⟩ rE.f12.f12.f12.f12.f12.f12.f12.f12.f12.f12.f12.f12
theorem Xf (H : V w0 w (dY y s • F)) : iK prog 42 #[.pointer (some ⟨y, 0, none⟩), .bool b] w fun v w' => v = .int .i64 s.wB ∧ V w0 w' (dY y (s.FP b) • F) := by
 refine nO func42 ntmps42 ?_
 refine kG O (aI (aI ?_))
 obtain ⟨ED, tu, uo, uq, uw, wL, wM, EF, wO, wP, vJ, vK, wQ, uy, uz, uD, uF, uG, uH, uI, uJ, uK, uM, uN, uO, dS, lF, fU⟩ := (H).xq
 refine aF (kY O O (bg 32 aA O aN O (dQ bn O (fU).get.2 O (aT (jG O) (jo O (fun h1 => ?_) (fun h1 => ?_))))))
 ·(try simp only [aG] at h1)
  have hin : s.inn = false := by simpa using h1
  refine jE O (aC (dO results42 O ?_))
  have F9 := fU.f12.f12.f12.f12.f12.f12.f12.f12.f12.f12.f12.f12
  have Fq := V.fE (s := s) dS F9
  exact ⟨by simp [aX.FP, aX.wB, hin], by rw [show s.FP b = s from by simp [aX.FP, aX.wB, hin]]; exact Fq⟩
 ·(try simp only [aG] at h1)
  have hin : s.inn = true := by simpa using h1
  refine gX (bT O (kY O O (bg 1 aA O bZ O (bg 9 bf O aN O (aH (kU 10 fU aN) ?_)))))
  rintro _ w5 H5
  refine iR (jE O (dO results42 O ?_))
  exact ⟨by simp [aX.wB, hin], by unfold aX.FP; rw [if_pos hin]; exact V.fE (s := { s with c := { s.c with over := b } }) ⟨dS.ok, dS.rx, dS.says, dS.Fv, dS.placed, dS.G9⟩ H5.f12.f12.f12.f12.f12.f12.f12.f12.f12.f12.f12.f12⟩
theorem Zb (H : V w0 w (dY y s • F)) : iK prog 44 #[.pointer (some ⟨y, 0, none⟩), .int .i64 x] w fun v w' => v = .int .i64 (s.GU x) ∧ V w0 w' (dY y (s.KI x) • F) := by
 refine nO func44 ntmps44 ?_
 refine kG O (aI (aI ?_))
 obtain ⟨ED, tu, uo, uq, uw, wL, wM, EF, wO, wP, vJ, vK, wQ, uy, uz, uD, uF, uG, uH, uI, uJ, uK, uM, uN, uO, dS, lF, fU⟩ := (H).xq
 refine aF (kY O O (bg 32 aA O aN O (dQ bn O (fU).get.2 O (aT (jG O) (nS O (fun h1 => ?_) (fun h1 => ?_))))))
 ·(try simp only [aG] at h1)
  refine dB (dB (mQ O O (cO O (dB (dB (mQ O O (iR (DZ (jE O (aC (dO results44 O ?_)))))))))))
  have hd : s.GU x = 1 := by
   unfold aX.GU
   by_cases hin : s.inn = true
   ·rw [if_pos hin, if_pos (by first | omega | (exfalso; simp_all))]
   ·rw [if_neg hin]
  have F9 := fU.f12.f12.f12.f12.f12.f12.f12.f12.f12.f12.f12.f12
  have Fq := V.fE (s := s) dS F9
  exact ⟨by rw [hd], by unfold aX.KI; rw [if_neg (by rw [hd]; decide)]; exact Fq⟩
 ·(try simp only [aG] at h1)
  refine bJ (cO O (bJ (aT (fJ O O) (kP O O (nS O (fun h2 => ?_) (fun h2 => ?_))))))
  ·(try simp only [aG] at h2)
   refine dB (dB (mQ O O (iR (DZ (jE O (aC (dO results44 O ?_)))))))
   have hd : s.GU x = 1 := by
    unfold aX.GU
    by_cases hin : s.inn = true
    ·rw [if_pos hin, if_pos (by first | omega | (exfalso; simp_all))]
    ·rw [if_neg hin]
   have LP := fU.f12.f12.f12.f12.f12.f12.f12.f12.f12.f12.f12.f12
   have Ih := V.fE (s := s) dS LP
   exact ⟨by rw [hd], by unfold aX.KI; rw [if_neg (by rw [hd]; decide)]; exact Ih⟩
  ·(try simp only [aG] at h2)
   refine bJ (cO O (bJ (aT (fZ O O) (kP O O (jo O (fun h3 => ?_) (fun h3 => ?_))))))
   ·(try simp only [aG] at h3)
    refine jE O (aC (dO results44 O ?_))
    have hd : s.GU x = 1 := by
     unfold aX.GU
     by_cases hin : s.inn = true
     ·rw [if_pos hin, if_pos (by first | omega | (exfalso; simp_all))]
     ·rw [if_neg hin]
    have Ho9 := fU.f12.f12.f12.f12.f12.f12.f12.f12.f12.f12.f12.f12
    have KL := V.fE (s := s) dS Ho9
    exact ⟨by rw [hd], by unfold aX.KI; rw [if_neg (by rw [hd]; decide)]; exact KL⟩
   ·(try simp only [aG] at h3)
    refine gX (aI ?_)
    have hin : s.inn = true := by first | assumption | (simp_all; done)
    have hd : s.GU x = 0 := by unfold aX.GU; rw [if_pos hin, if_neg (by omega)]
    refine aF (ku O O (dM O (bg 1 aA O bZ O (bg 10 bf O ah O (aH (kU 11 fU ah) ?_)))))
    rintro _ Ii rE
    refine iR (jE O (dO results44 O ?_))
    rw [hd]
    refine ⟨O, ?_⟩
    unfold aX.KI
    rw [if_pos hd]
    exact V.fE (s := { s with c := { s.c with res := x } }) ⟨dS.ok, dS.rx, dS.says, dS.Fv, dS.placed, dS.G9⟩ rE.f12.f12.f12.f12.f12.f12.f12.f12.f12.f12.f12.f12
theorem Di (H : V w0 w (dY y s • F)) : iK prog 34 #[.pointer (some ⟨y, 0, none⟩)] w fun v w' => v = .int .i64 s.count ∧ V w0 w' (dY y s • F) := by
 refine jl func34 ntmps34 ?_
 obtain ⟨ED, tu, uo, uq, uw, wL, wM, EF, wO, wP, vJ, vK, wQ, uy, uz, uD, uF, uG, uH, uI, uJ, uK, uM, uN, uO, dS, lF, fU⟩ := (H).xq
 have harg := dS.ok.2.2.1
 refine kG O (kG O ?_)
 refine yV [(0, _)] (fun (_ : Unit) => [(3, .int .i64 (if s.given = true ∧ 0 ≤ s.arg then s.arg else 1))]) (fun (_ : Unit) W => W = w) rJ ?_ ?_
 ·rintro _ w2 rfl
  dsimp only [List.cons_append, List.nil_append]
  have hn1 : -1 ≤ (if s.given = true ∧ 0 ≤ s.arg then s.arg else 1) ∧ (if s.given = true ∧ 0 ≤ s.arg then s.arg else 1) ≤ 1000000 := by split <;> omega
  refine aI (bT O (dM O (bg 25 aA O aN O (dQ bn O (fU).get.2 O (nS O (fun h1 => ?_) (fun h1 => ?_))))))
  ·(try simp only [aG] at h1)
   refine bJ (cO O (bJ (dM O (bJ (bg 26 aA O aN O (bJ (dQ bn O (fU).get.2 O (mQ O O (jo O (fun h2 => ?_) (fun h2 => ?_))))))))))
   ·(try simp only [aG] at h2)
    refine bT O (aT (XM O (by omega)) (iJ O (aC (dO results34 O ?_))))
    have Rn := fU.f12.f12.f12.f12.f12.f12.f12.f12.f12.f12.f12.f12
    have O6 := V.fE (s := s) dS Rn
    exact ⟨by unfold aX.count; congr 1; by_cases hg : s.given = true <;> by_cases hm : s.minus = true <;> by_cases ha : s.arg < 0 <;> simp_all <;> omega, O6⟩
   ·(try simp only [aG] at h2)
    refine gX (bT O (iJ O (dO results34 O ?_)))
    have Qd := fU.f12.f12.f12.f12.f12.f12.f12.f12.f12.f12.f12.f12
    have Qe := V.fE (s := s) dS Qd
    exact ⟨by unfold aX.count; congr 1; by_cases hg : s.given = true <;> by_cases hm : s.minus = true <;> by_cases ha : s.arg < 0 <;> simp_all <;> omega, Qe⟩
  ·(try simp only [aG] at h1)
   refine dB (dB (dB (dB (kP O O (iR (yh (gX (bT O (iJ O (dO results34 O ?_))))))))))
   have Iy := fU.f12.f12.f12.f12.f12.f12.f12.f12.f12.f12.f12.f12
   have GK := V.fE (s := s) dS Iy
   exact ⟨by unfold aX.count; congr 1; by_cases hg : s.given = true <;> by_cases hm : s.minus = true <;> by_cases ha : s.arg < 0 <;> simp_all <;> omega, GK⟩
 ·skip
  refine bT O (dM O (bg 25 aA O aN O (dQ bn O (fU).get.2 O (nS O (fun h3 => ?_) (fun h3 => ?_)))))
  ·(try simp only [aG] at h3)
   refine bJ (cO O (bJ (dM O (bJ (bg 27 aA O ah O (bJ (dQ ay O (fU).get.2 O (bJ (aT (vT O O) (mQ O O (jo O (fun h4 => ?_) (fun h4 => ?_))))))))))))
   ·(try simp only [aG] at h4)
    refine aF (kY O O (bg 27 aA O ah O (dQ ay O (fU).get.2 O (lg O (dJ ?_)))))
    refine ji (()) ?_ ?_ ?_
    ·exact (Sub.vG O (by first | (rw [if_pos ⟨by assumption, by omega⟩] <;> rfl) | (rw [if_neg (by simp_all)] <;> rfl)) (Sub.nil _))
    ·exact rJ
    ·(try dsimp only)
     first | done | exact rfl
   ·(try simp only [aG] at h4)
    refine eG ?_
    refine ji (()) ?_ ?_ ?_
    ·exact (Sub.vG O (by first | (rw [if_pos ⟨by assumption, by omega⟩] <;> rfl) | (rw [if_neg (by simp_all)] <;> rfl)) (Sub.nil _))
    ·exact rJ
    ·(try dsimp only)
     first | done | exact rfl
  ·(try simp only [aG] at h3)
   refine dB (dB (dB (dB (dB (kP O O (iR (yh (eG ?_))))))))
   refine ji (()) ?_ ?_ ?_
   ·exact (Sub.vG O (by first | (rw [if_pos ⟨by assumption, by omega⟩] <;> rfl) | (rw [if_neg (by simp_all)] <;> rfl)) (Sub.nil _))
   ·exact rJ
   ·(try dsimp only)
    first | done | exact rfl
theorem Ux (H : V w0 w (dY y s • F)) : iK prog 57 #[.pointer (some ⟨y, 0, none⟩)] w fun v w' => v = .bool s.given ∧ V w0 w' (dY y s • F) := by
 refine jl func57 ntmps57 ?_
 refine kG O (aI ?_)
 obtain ⟨ED, tu, uo, uq, uw, wL, wM, EF, wO, wP, vJ, vK, wQ, uy, uz, uD, uF, uG, uH, uI, uJ, uK, uM, uN, uO, dS, lF, fU⟩ := (H).xq
 refine aF (kY O O (bg 25 aA O aN O (dQ bn O (fU).get.2 O (iJ O (dO results57 O ?_)))))
 have F9 := fU.f12.f12.f12.f12.f12.f12.f12.f12.f12.f12.f12.f12
 have Fq := V.fE (s := s) dS F9
 exact ⟨O, Fq⟩
theorem Xg (H : V w0 w (dY y s • F)) : iK prog 55 #[.pointer (some ⟨y, 0, none⟩)] w fun v w' => ∃ u, v = .agg (oU u s.c.pt s.c.mark) ∧ V w0 w' (kF 21 .i32 u s.c.L • dY y s • F) := by
 refine jl func55 ntmps55 ?_
 refine kQ (jT (iI (l := [_, _, _]) H vZ O) ?_)
 rintro _ w1 ⟨b1, rfl, H1⟩
 refine uV ?_
 obtain ⟨ED, tu, uo, uq, uw, wL, wM, EF, wO, wP, vJ, vK, wQ, uy, uz, uD, uF, uG, uH, uI, uJ, uK, uM, uN, uO, dS, lF, fU⟩ := (H1.f2).xq
 refine aF (kY O O (bg 1 aA O bZ O (bg 0 bf O kD O (dQ jf O (fU).get.2 O (fH O func124 (PD fU.f2) ?_)))))
 rintro _ w3 ⟨u3, rfl, H3⟩
 refine aH (dR 0 (l' := [_, _, _]) (us := [_, _, _]) H3.f14 oV O O O (bD (by first | rfl | exact Rd.one ((H3).aJ)) (aP (aP bW))) O O) ?_
 rintro _ w4 H4
 refine zkc ?_
 refine wW (.inl O) (Oj results55 O iM O (by rw [U7]; rfl) (H4).get.2) ?_
 have LP := H4.f14.f14.f14.f14.f14.f14.f14.f14.f14.f14.f13.f14
 have Ih := V.fE (s := s) dS LP
 exact ⟨_, O, Ih.f2.right.f2⟩
end
end Go.Proofs.YtnhhmieghbfalaaGreatDoor
end
section
namespace Go.Proofs.YtnhhmieghbfalaaGreatDoor
open Go.RowKit
section
variable {w0 w : World} {F : HP} {e h : Nat} {hl : List rM} {base most : Int}
end
end Go.Proofs.YtnhhmieghbfalaaGreatDoor
end
section
namespace Go.Proofs.YtnhhmieghbfalaaGreatDoor
open Go.RowKit
open _root_.Go.Proofs.Tryz
section
variable {w0 w : World} {F : HP} {l : List rM} {v : Value}
theorem aeK (H : V w0 w F) (hv : Ht w0 F 2 v l.length (l.flatMap qI)) (hb : l.length ≤ 5864062014805) (hm : BL l ≠ 0) : iK prog 4 #[v] w fun v' w' => v' = .tuple #[.pointer none, .pointer none, .bool true] ∧ V w0 w' F := by
 refine jl func4 ntmps4 ?_
 refine kQ (lg O (lg O (iU O (bT O (fH O func15 (Ud H (by decide) hv hb hm) ?_)))))
 rintro _ w1 ⟨rfl, H1⟩
 refine cO O (xY O O (xY O O (lg O (iU O (bT O (fH O func16 (Rt H1 (by decide) hv hb hm) ?_))))))
 rintro _ w2 ⟨rfl, H2⟩
 refine cO O (xY O O (xY O O (lg O (vI O (bT O (cO O (aT (fF O O) (iR (Kq O (fun h1 => ?_))))))))))
 (try simp only [aG] at h1)
 refine gX (aI (bT O (aT (fF O O) (jo O (fun h2 => ?_) (fun h => by exfalso; (try simp only [aG] at h); exact hm h)))))
 (try simp only [aG] at h2)
 refine kQ (lg O (lg O (iJ O (aC ?_))))
 refine abn (.inl O) results4 O O O ?_
 exact ⟨O, H2⟩
end
end Go.Proofs.YtnhhmieghbfalaaGreatDoor
end
