import Derived.Test.YtpdeedplgmbopaaGreatDoorZ4
import Derived.Test.YtpdeedplgmbopaaGreatDoorZ19
import Derived.Test.YtpdeedplgmbopaaGreatDoorZ15
import Derived.Test.YtpdeedplgmbopaaGreatDoorZ13
import Derived.Test.YtpdeedplgmbopaaGreatDoorZ18
set_option linter.unusedSimpArgs false
set_option linter.unusedVariables false
/- Texts of mine, joined, their names in short: REdF REdE REdN VBoth VLive. -/
section
namespace Go.Proofs.YtpdeedplgmbopaaGreatDoor
open Go.RowKit
open _root_.Go.Proofs.Tryz
theorem BU.one {I : Hp} {sz n : Nat} {v : Value} {xs : List Value} (h : BU I sz v n xs) : v.oneCell' = true := by obtain ⟨_, a, c, rfl, _⟩ := h; rfl
section
variable {w0 w : World} {F : HP} {p y h : Nat} {s : dN} {u v lv : Value} {es les : List eG} {gs : List (Value × List eG)} {on : Bool}
theorem V.X0 (H : V w0 w (oH gs • F)) : ∀ x ∈ gs.map (·.1), x.oneCell' = true := by
  obtain ⟨I, h, hI⟩ := H.rJ
  intro x hx
  obtain ⟨g, hg, rfl⟩ := List.mem_map.1 hx
  obtain ⟨k, hk, rfl⟩ := List.getElem_of_mem hg
  have := h k hk
  rw [List.getD_eq_getElem?_getD, List.getElem?_eq_getElem hk] at this
  exact this.1.one
theorem V.Zo (H : V w0 w (Cm v es • F)) : V w0 w (kW es • Cm v es • F) := H.sO.EF (pI (fun I h => h.2) _)
theorem X3 {α : Type _} (l : List α) (u : α) (h : l ≠ []) : l.set (l.length - 1) u = l.dropLast ++ [u] := by
  have e := List.dropLast_concat_getLast h
  have hl : l.dropLast.length = l.length - 1 := List.length_dropLast
  conv => lhs; rw [← e]
  rw [List.set_append_right _ _ (by simp)]
  simp
theorem V.UU (hg : gs ≠ []) (H : V w0 w (Row 80 1 v gs.length ((gs.map (·.1)).set (gs.length - 1) u) • Cm u es • oH gs • F)) : V w0 w (glK v (gs.dropLast ++ [(u, es)]) • F) := by
  have h0 : 0 < gs.length := List.length_pos_iff.2 hg
  have H1 := (H.f3).NV (gs.length - 1)
  rw [← List.dropLast_eq_take] at H1
  have hm : (gs.map (·.1)).set (gs.length - 1) u = gs.dropLast.map (·.1) ++ [u] := by
    have := X3 (gs.map (·.1)) u (by simpa using hg)
    rw [List.length_map] at this
    rw [this, List.map_dropLast]
  have hl : gs.length = gs.dropLast.length + 1 := by rw [List.length_dropLast]; omega
  rw [hm, hl] at H1
  exact (V.rY (H1.f2.f3.f2)).Bv
theorem KY (gs : List (Value × List eG)) (x : Value × List eG) : Bq (gs ++ [x]) = Bq gs ++ [x.2.map eG.says] := by unfold Bq; rw [List.map_append]; rfl
theorem PD (hG : Bq gs = s.here) (hne : gs ≠ []) (hl : gs.getD (gs.length - 1) default = (lv, les)) (hes : es.map eG.says = s.put) (hp : s.put ≠ []) : Bq (gs.dropLast ++ [(u, les ++ es)]) = s.lH true := by
  have h0 : s.here ≠ [] := by rw [← hG]; unfold Bq; simpa using hne
  have h1 : s.here.getLast h0 = les.map eG.says := by
    have e : s.here.getLast? = some (les.map eG.says) := by
      rw [← hG]; unfold Bq
      rw [List.getLast?_map, List.getLast?_eq_getElem?]
      rw [List.getD_eq_getElem?_getD, List.getElem?_eq_getElem (by have := List.length_pos_iff.2 hne; omega)] at hl
      rw [List.getElem?_eq_getElem (by have := List.length_pos_iff.2 hne; omega)]
      simp only [Option.getD_some] at hl
      rw [hl]; rfl
    rw [List.getLast?_eq_some_getLast h0] at e
    exact Option.some.inj e
  unfold dN.lH
  rw [if_neg hp, if_pos rfl, List.getLast?_eq_some_getLast h0, KY]
  have h2 : Bq gs.dropLast = s.here.dropLast := by rw [← hG]; unfold Bq; rw [List.map_dropLast]
  rw [h1, h2]
  show _ ++ [(les ++ es).map eG.says] = _
  rw [List.map_append, hes]
theorem Jj (hG : Bq gs = s.here) (hes : es.map eG.says = s.put) (hp : s.put ≠ []) (h : ¬ (on = true ∧ 0 < gs.length)) : Bq (gs ++ [(u, es)]) = s.lH on := by
  unfold dN.lH
  rw [if_neg hp, KY, hG]
  show s.here ++ [es.map eG.says] = _
  rw [hes]
  cases on with
  | false => rw [if_neg (by decide)]
  | true =>
    have h0 : s.here = [] := by
      have : gs = [] := List.eq_nil_of_length_eq_zero (by by_cases hx : 0 < gs.length; exact absurd ⟨rfl, hx⟩ h; omega)
      rw [← hG, this]; rfl
    rw [if_pos rfl, h0]; rfl
theorem zY {x0 x1 x2 x3 x4 x6 x9 x10 x11 x12 wC x14 x15 x16 x17 x18 x19 x20 x21 wQ x23 x24 x25 xq x27 x28 x29 x30 x31 x32 yc x34 ND NG NH x38 x40 x41 : Value} {pv gv nw : Value} {A : List LE} (hA : Gf A = s.c.un) (hP : wz s.hl A) (hS : es.map eG.says = s.put) (hok : mF s) (hx : Et s.c) (hhl : s.hl.length ≤ 4096)
  (H : V w0 w (dS y (.cells (x0 :: x1 :: x2 :: x3 :: x4 :: .int .i64 s.c.place :: x6 :: pv :: gv :: x9 :: x10 :: x11 :: x12 :: wC :: x14 :: x15 :: x16 :: x17 :: x18 :: x19 :: x20 :: x21 :: wQ :: x23 :: x24 :: x25 :: xq :: x27 :: x28 :: x29 :: x30 :: x31 :: x32 :: yc :: x34 :: ND :: NG :: NH :: x38 :: nw :: x40 :: x41 :: []).toArray 174 (0, 0)) • nD .i64 pv (A.map (·.1)) • vV 1 gv A.length (A.map (·.2.1)) • rC A • Row 189 3 nw es.length (es.flatMap eG.enc) • kW es • F)) :
  ig prog 116 #[.pointer (some ⟨y, 0, none⟩), .bool on] w fun _ w' => ∃ pv' gv' A' nw', Gf A' = (s.iF on).c.un ∧ wz s.hl A' ∧
   V w0 w' (dS y (.cells (x0 :: x1 :: x2 :: x3 :: x4 :: .int .i64 s.c.place :: x6 :: pv' :: gv' :: x9 :: x10 :: x11 :: x12 :: wC :: x14 :: x15 :: x16 :: x17 :: x18 :: x19 :: x20 :: x21 :: wQ :: x23 :: x24 :: x25 :: xq :: x27 :: x28 :: x29 :: x30 :: x31 :: x32 :: yc :: x34 :: ND :: NG :: NH :: x38 :: nw' :: x40 :: x41 :: []).toArray 174 (0, 0)) • nD .i64 pv' (A'.map (·.1)) • vV 1 gv' A'.length (A'.map (·.2.1)) • rC A' • Row 189 3 nw' 0 [] • kW [] • F) := by
 have afX := UM hx
 have hput := hok.2.2.2.2.1
 have hsp := pz s.here s.put
 have hpl := Rq hP (by omega)
 have hlp : es.length = s.put.length := by rw [← hS]; simp
 refine nC func116 ntmps116 ?_
 refine aK (bM O (dQ O (bK 39 aS O bV O (gJ aZ O (H).get.2 O (Z (jU ((H.f5).aY) aZ O) (Z (cZ O O) (gQ O (fun h1 => ?_) (fun h1 => ?_))))))))
 ·(try simp only [aC] at h1)
  have he : es = [] := List.eq_nil_of_length_eq_zero (by omega)
  have hp : s.put = [] := List.eq_nil_of_length_eq_zero (by omega)
  refine mg (ay (we0 results116 ?_))
  subst he
  exact ⟨pv, gv, A, nw, by rw [zS hp]; exact hA, hP, H.f6.f6.f6.f6.f6.f6⟩
 ·(try simp only [aC] at h1)
  have hp : s.put ≠ [] := fun hx => h1 (by rw [hlp, hx]; rfl)
  refine fG (bM O (dQ O (bK 1 aS O fD O (bK 2 dD O nU O (bK 2 gV O aF O (gJ aP O (H).get.2 O (fV O (bM O (dQ O (bK 1 aS O fD O (bK 6 dD O sizeOf170 O (bG O (dX O func155 (Rx H.f4.f4.f4.f4) ?_)))))))))))))
  rintro u1 w1 ⟨gs1, aeO, H1⟩
  obtain ⟨gu, rfl⟩ : ∃ q, q = u1 := ⟨_, rfl⟩
  obtain ⟨gs, rfl⟩ : ∃ q, q = gs1 := ⟨_, rfl⟩
  have hG : Bq gs = s.here := by rw [aeO, hA]; rfl
  have hgl : gs.length = s.here.length := by rw [← hG]; exact (List.length_map _).symm
  have Ho2 := H1.f2.f2
  have YU := Ho2
  have hone := (YU.f2).X0
  refine fV O (jy O (bM O (bG O (jL (gZ (YU.jk none) bH FD O O O ((YU).pU) (by assumption) (by omega) (by omega)) ?_))))
  rintro l4 w4 H4
  have Ym := H4
  rw [Nat.zero_add, List.nil_append] at Ym
  refine fV O ?_
  refine iY [(0, _), (4, _)] (fun (ou : Value) => [(6, ou)]) (fun (ou : Value) W => ∃ gs, Bq gs = s.lH on ∧ V w0 W (vV 1 ou gs.length (gs.map (·.1)) • oH gs • dS y (.cells (x0 :: x1 :: x2 :: x3 :: x4 :: .int .i64 s.c.place :: x6 :: pv :: gv :: x9 :: x10 :: x11 :: x12 :: wC :: x14 :: x15 :: x16 :: x17 :: x18 :: x19 :: x20 :: x21 :: wQ :: x23 :: x24 :: x25 :: xq :: x27 :: x28 :: x29 :: x30 :: x31 :: x32 :: yc :: x34 :: ND :: NG :: NH :: x38 :: nw :: x40 :: x41 :: []).toArray 174 (0, 0)) • nD .i64 pv (A.map (·.1)) • vV 1 gv A.length (A.map (·.2.1)) • rC A • F)) mW ?_ ?_
  ·rintro ou w5 ⟨gs, hG, HJ⟩
   dsimp only [List.cons_append, List.nil_append]
   refine bM O (dQ O (bK 1 aS O fD O (bK 6 dD O sizeOf170 O (jr O O (dX O func156 (Pq HJ.f2.f2.f6.f6.f6.f6 (by assumption)) ?_)))))
   rintro _ w6 ⟨pv6, gv6, H6⟩
   refine iy (aA (nZ O O (bK 39 aS O bV O (aO (lG 39 H6 bV) ?_))))
   rintro _ w7 H7
   refine bD (mO (.inr O) results116 ?_)
   have HQ := (H7.f4.f4.f4.f4).tu none |>.edL
   refine ⟨_, _, _, _, ?_, Rw hP ⟨hok.1.1, hok.1.2.1⟩, HQ.f6.f6.f6.f6⟩
   rw [lX hp, Zi, hA, hG]; rfl
  ·skip
   refine bM O (iZ O (fun h2 => ?_) (fun h2 => ?_))
   ·(try simp only [aC] at h2)
    refine bg (bG O (bg (Z (jU ((Ym).aY) bH O) (bg (Z (iw O O) (iM O O (gQ O (fun h3 => ?_) (fun h3 => ?_))))))))
    ·(try simp only [aC] at h3)
     refine aK ?_
     have aeP : on = true := by first | assumption | (simp_all; done)
     have hne : gs ≠ [] := fun hx => by subst hx; simp at *
     refine aA (fV O (bM O (jr O O (Z (jU ((Ym).aY) bH O) (Z (iG O O (by omega)) ?_)))))
     obtain ⟨bl4, ol4, cl4, el4⟩ := Rd.nJ ((Ym).aY) (by omega)
     cases el4
     refine Z (dh bH bV O O (by omega)) ?_
     refine Z (dH (bT aZ O) O (by first | exact Rd.jo ((Ym).aY) (by omega) | exact Rd.qB ((Ym).aY) (by omega) | exact Rd.qx ((Ym).aY) (by omega))) ?_
     rw [show (gs.map (·.1)).getD (((gs.length : Nat) : Int) - 1).toNat undef = (gs.getD (gs.length - 1) default).1 from by have := List.length_pos_iff.2 hne; rw [show (((gs.length : Nat) : Int) - 1).toNat = gs.length - 1 from by omega]; simp [List.getD_eq_getElem?_getD, show gs.length - 1 < gs.length from by omega]]
     obtain ⟨gl, xO, hg⟩ : ∃ gl xO, gs.getD (gs.length - 1) default = (gl, xO) := ⟨_, _, rfl⟩
     rw [hg]
     have Ho8 := Ym.f3
     have Zb := Ho8.Gs (by have := List.length_pos_iff.2 hne; omega) hg
     have afl := (Zb).V3
     have hgm : xO.map eG.says ∈ s.here := by rw [← hG]; exact List.mem_map.2 ⟨(gl, xO), by rw [← hg]; exact wR (by have := List.length_pos_iff.2 hne; omega), rfl⟩
     have hgb := Gt hgm
     rw [List.length_map] at hgb
     have afY : xO.length ≤ 16384 := by unfold jd at hput; omega
     refine jL (gZ (Zb.jk none) aZ AO O O O ((Zb).vY) (by assumption) (by omega) (by omega)) ?_
     rintro l10 w10 rD
     have HX7 := rD
     rw [Nat.zero_add, List.nil_append] at HX7
     refine fV O ?_
     have afm := (HX7.f11).AL
     refine aA (jr O O (Z (jZ bH O) (Z (iG O O (by omega)) (jr O O (dQ O (bK 39 aS O bV O (gJ aZ O (HX7.f6).get.2 O (jL (gZ HX7 aZ AO O O O ((HX7.f10).aY) (by assumption) (by omega) (by omega)) ?_))))))))
     rintro l11 ED rM
     refine Z (dh bH bV O O (by omega)) (aO (Ll 0 rM.f4 bV O O (by first | rfl | exact Rd.one ((rM).aY)) (by omega) (by decide)) ?_)
     rintro _ w12 vX
     have abe := vX.f3
     have abf := (abe.Zo).f2.right
     have aa1 := abf.f11.f2.f4
     have aa2 := V.qF (es := xO ++ es) (V.deep (V.Gv rfl aa1))
     have QA := aa2.f2
     have HX8 := QA
     rw [show (((gs.length : Nat) : Int) - 1).toNat * 1 + 0 = gs.length - 1 from by omega] at HX8
     have aa7 := HX8.f3.f3.f3
     have aa8 := (V.UU hne aa7).Ti
     have hGJ := PD (s := s) (u := l11) hG hne hg hS hp
     rw [← aeP] at hGJ
     refine bD ?_
     refine cO (_) ji mW (by (try dsimp only); exact ⟨_, hGJ, aa8.f3.right.f7.right.f6.f6.f6.f6.f6.f6⟩)
    ·(try simp only [aC] at h3)
     have W9 := Ym.f9.f9
     have QM := V.qF (v := nw) (es := es) (V.deep W9)
     have hnj : ¬ (on = true ∧ 0 < gs.length) := by first | omega | simp_all | (intro hx; simp_all; omega)
     refine aA (jr O O (dQ O (bK 39 aS O bV O (gJ aZ O (QM.f5).get.2 O (jL (kH (vs := [_]) QM bH bV lS O O O (by decide) (bf (by first | rfl | exact Rd.one ((QM).vY)) bP)) ?_)))))
     rintro l22 w22 Qe
     refine jL (gZ Qe.f3 bH FD O O O ((Qe).aY) (bf (by first | rfl | exact Rd.one ((Qe.f2).vY)) bP) (by omega) (by omega)) ?_
     rintro l23 w23 JA
     have aeQ := JA.f2.right
     have abw := aeQ.f4.f3.f3
     have abx := (V.rY abw).Bv.Ti
     have hGJ := Jj (s := s) (on := on) (u := nw) hG hS hp hnj
     refine dL O (bD ?_)
     refine cO (_) ji mW (by (try dsimp only); exact ⟨_, hGJ, abx.f3.right.f6.f6.f6.f6.f6.f6⟩)
   ·(try simp only [aC] at h2)
    refine bn (bn (bn (gI O O (iy (oD ?_)))))
    have aeR := Ym.f9.f9
    have aby := V.qF (v := nw) (es := es) (V.deep aeR)
    have hnj : ¬ (on = true ∧ 0 < gs.length) := by first | omega | simp_all | (intro hx; simp_all; omega)
    refine aA (jr O O (dQ O (bK 39 aS O bV O (gJ aZ O (aby.f5).get.2 O (jL (kH (vs := [_]) aby bH bV lS O O O (by decide) (bf (by first | rfl | exact Rd.one ((aby).vY)) bP)) ?_)))))
    rintro l29 w29 Za
    refine jL (gZ Za.f3 bH FD O O O ((Za).aY) (bf (by first | rfl | exact Rd.one ((Za.f2).vY)) bP) (by omega) (by omega)) ?_
    rintro l30 w30 Wv
    have aeS := Wv.f2.right
    have aeT := aeS.f4.f3.f3
    have aeU := (V.rY aeT).Bv.Ti
    have hGJ := Jj (s := s) (on := on) (u := nw) hG hS hp hnj
    refine dL O (bD ?_)
    refine cO (_) ji mW (by (try dsimp only); exact ⟨_, hGJ, aeU.f3.right.f6.f6.f6.f6.f6.f6⟩)
end
theorem kG.bad {s : dN} {es : List eG} {A A' : List LE} {yf yt : Int} (h : kG s es A yf yt) (hin : s.inn = true) (hA : _root_.Go.Proofs.YtpdeedplgmbopaaGreatDoor.Gf A' = s.was.un) (hP : wz s.hl A') : kG s.yF [] A' yf yt :=
  ⟨QW h.ok hin, ⟨(h.rx.2.1 hin).1, fun hi => absurd hi (by show ¬ false = true; decide), fun hi => absurd hi (by show ¬ false = true; decide)⟩, rfl, hA, hP, fun hi => absurd hi (by show ¬ false = true; decide)⟩
theorem vU (s : dN) : s.qj = { s with c := { s.c with un := (s.iF (s.typed && s.c.run)).c.un, run := s.typed && (!s.put.isEmpty || s.c.run), last := s.cls, fr := if s.cls = 2 then s.c.fr else 0, to := if s.cls = 2 then s.c.to else 0 }, given := if s.argues = true then s.given else false, minus := if s.argues = true then s.minus else false, arg := if s.argues = true then s.arg else -1, inn := false, put := [] } := by
  unfold dN.qj dN.kL dN.iF
  by_cases ha : s.argues = true
  · by_cases hp : s.put = []
    · by_cases hc : s.cls = 2
      · simp [ha, hp, hc, dN.AX]
      · simp [ha, hp, hc, dN.AX]
    · by_cases hc : s.cls = 2
      · simp [ha, hp, hc, dN.AX, dN.xA, dN.lH, dN.here]
      · simp [ha, hp, hc, dN.AX, dN.xA, dN.lH, dN.here]
  · by_cases hp : s.put = []
    · by_cases hc : s.cls = 2
      · simp [ha, hp, hc, dN.AX]
      · simp [ha, hp, hc, dN.AX]
    · by_cases hc : s.cls = 2
      · simp [ha, hp, hc, dN.AX, dN.xA, dN.lH, dN.here]
      · simp [ha, hp, hc, dN.AX, dN.xA, dN.lH, dN.here]
theorem kG.good {s : dN} {es : List eG} {A A' : List LE} {yf yt : Int} (h : kG s es A yf yt) (hA : _root_.Go.Proofs.YtpdeedplgmbopaaGreatDoor.Gf A' = (s.iF (s.typed && s.c.run)).c.un) (hP : wz s.hl A') : kG s.qj [] A' yf yt := by
  have hok : mF s.qj := by
    have h1 := UK (uS h.ok) (s := s.kL) (by unfold dN.kL; split <;> exact h.rx.1) (s.typed && s.c.run)
    unfold dN.qj
    dsimp only
    split <;> exact h1
  have hx : Et (s.iF (s.typed && s.c.run)).c := (UL h.ok h.rx _).1
  rw [vU] at hok ⊢
  exact ⟨hok, ⟨⟨hx.1, h.rx.1.2⟩, fun hi => absurd hi (by show ¬ false = true; decide), fun hi => absurd hi (by show ¬ false = true; decide)⟩, rfl, hA, hP, fun hi => absurd hi (by show ¬ false = true; decide)⟩
section
variable {w0 w : World} {F : HP} {p y h : Nat} {s : dN} {x : Int}
theorem PE (hin : s.inn = true) (hx : x ≠ 0) (H : V w0 w (pX y s • F)) : ig prog 64 #[.pointer (some ⟨y, 0, none⟩), .int .i64 x] w fun v w' => v = .int .i64 x ∧ V w0 w' (pX y s.yF • F) := by
 refine nC func64 ntmps64 ?_
 refine jy O (aK (aK ?_))
 obtain ⟨Yl, JG, JH, JI, JJ, UN, UO, A_y, UQ, UR, Pv, Px, Py, JK, JL, JM, JO, JQ, JR, JU, JV, JW, JX, JY, JZ, qL, Dy, wB⟩ := (H).Pn
 have HI := wB
 rw [hin] at HI
 obtain ⟨qb, qk, qw, qn, qp, qg, qA, hu, hqA, hqP, hu1, HW⟩ := (HI.f12).aeK
 simp only [Fa, List.cons.injEq, and_true] at hu
 obtain ⟨rfl, rfl, rfl, rfl, rfl, rfl, rfl, rfl, rfl, rfl, rfl, rfl⟩ := hu
 refine aA (nZ O O (bK 32 aS O aT O (gJ bW O (HW.f8).get.2 O (Z (mD O) (iy (NC O (fun h1 => ?_)))))))
 (try simp only [aC] at h1)
 refine fG (bM O (dQ O (bK 32 aS O aT O (aO (lG 32 HW.f8 aT) ?_))))
 rintro _ w2 H2
 refine qW (bM O (Z (jv O O) (gQ O (fun h2 => ?_) (fun h => by exfalso; (try simp only [aC] at h); exact hx h))))
 (try simp only [aC] at h2)
 refine bM O (nZ O O (bK 13 aS O fD O (Z (oP 13 (xs := [_, _, _, _, _, _, _, _, _, _, _, _]) dD O fD O O (H2).get.2 O) (dQ O (bK 1 aS O fD O (aO (dw 1 (l' := [_, _, _, _, _, _, _, _, _, _, _, _, _, _, _, _, _, _, _, _, _, _, _, _, _, _, _, _, _, _, _, _, _, _, _, _, _, _, _, _, _, _]) (us := [_, _, _, _, _, _, _, _, _, _, _, _]) H2 fD O O O (aH (aH (bf (by first | rfl | exact Rd.one ((H2.f4).pU)) (bf (by first | rfl | exact Rd.one ((H2.f5).aY)) (aH (aH (bf (by first | rfl | exact Rd.one ((H2.f6).jV)) (bf (by first | rfl | exact Rd.one ((H2.f7).pU)) (aH (aH (aH (aH bP)))))))))))) O O) ?_))))))
 rintro _ w3 H3
 refine sH O (dQ O (bK 39 aS O bV O (aO (lG 39 H3 bV) ?_)))
 rintro _ w4 H4
 refine sH O (dQ O (bK 31 aS O sizeOf2 O (gJ underlying2 O (H4).get.2 O (Z (aav O O) (dQ O (bK 31 aS O sizeOf2 O (aO (lG 31 H4 sizeOf2) ?_)))))))
 rintro _ w5 H5
 refine sH O (jr O O (dQ O (bK 25 aS O aT O (aO (lG 25 H5 aT) ?_))))
 rintro _ w6 H6
 refine dQ O (bK 26 aS O aT O (aO (lG 26 H6 aT) ?_))
 rintro _ w7 H7
 refine dQ O (bK 27 aS O aF O (aO (lG 27 H7 aF) ?_))
 rintro _ w8 H8
 refine sH O (jr O O (dQ O (bK 28 aS O aF O (aO (lG 28 H8 aF) ?_))))
 rintro _ w9 H9
 refine dQ O (bK 29 aS O aF O (aO (lG 29 H9 aF) ?_))
 rintro _ w10 rD
 refine dQ O (bK 30 aS O aF O (aO (lG 30 rD aF) ?_))
 rintro _ ED rM
 refine sH O (dQ O (bK 39 aS O bV O (aO (lG 39 rM bV) ?_)))
 rintro _ w12 vX
 refine sH O (dU O (ay (dF results64 O ?_)))
 exact ⟨O, V.Tt (s := s.yF) (qL.bad hin hqA hqP) O vX.f9.right.f9.right.f9.right.f9.right.f9.right.f9.right.f9.right.f10.right.f10.right.f9.f9.f9.f9.f9.f9.f9.f9.f9 hu1⟩
theorem X5 (s : dN) : s.typed = (decide (s.cls = 3) && s.whole) := by unfold dN.typed; congr 1
theorem empty_eq (l : List jq) : (!l.isEmpty) = decide ((l.length : Int) > 0) := by cases l with
  | nil => rfl
  | cons x r => simp
theorem Nc (hin : s.inn = true) (H : V w0 w (pX y s • F)) : ig prog 64 #[.pointer (some ⟨y, 0, none⟩), .int .i64 0] w fun v w' => v = .int .i64 0 ∧ V w0 w' (pX y s.qj • F) := by
  obtain ⟨on, hon⟩ : ∃ on, on = (s.typed && s.c.run) := ⟨_, rfl⟩
  obtain ⟨rn, hrn⟩ : ∃ rn, rn = (s.typed && (!s.put.isEmpty || s.c.run)) := ⟨_, rfl⟩
  have OB := hon
  have Ey := hrn
  rw [X5] at OB Ey
  rw [empty_eq] at Ey
  refine nC func64 ntmps64 ?_
  obtain ⟨Yl, JG, JH, JI, JJ, UN, UO, A_y, UQ, UR, Pv, Px, Py, JK, JL, JM, JO, JQ, JR, JU, JV, JW, JX, JY, JZ, qL, Dy, wB⟩ := (H).Pn
  have HP9 := wB
  rw [← Dy] at HP9
  have X6 := qL.Gf
  have hplA := qL.placed
  have Ry := qL.says
  have abz := qL.ok
  have hxA := qL.rx.1
  have abA : s.hl.length ≤ 4096 := by obtain ⟨hv9, hk9, _⟩ := (HP9.f9).SI; exact hk9.1
  have hu1 := UJ (HP9.f12)
  refine jy O (aK (bM O (dQ O (bK 32 aS O aT O (gJ bW O (HP9).get.2 O (Z (mD O) (gQ O (fun h => by exfalso; (try simp only [aC] at h); simp [hin] at h) (fun h1 => ?_))))))))
  (try simp only [aC] at h1)
  refine fG (bM O (dQ O (bK 32 aS O aT O (aO (lG 32 HP9 aT) ?_))))
  rintro _ w2 H2
  refine qW (bM O (Z (jv O O) (iy (NC O (fun h2 => ?_)))))
  (try simp only [aC] at h2)
  refine fG (bM O (dQ O (bK 33 aS O aF O (gJ aP O (H2).get.2 O (Z (cZ O O) (fV O (bM O (dQ O (bK 39 aS O bV O (gJ aZ O (H2).get.2 O (Z (jU ((H2.f10).aY) aZ O) (Z (iw O O) (fV O ?_)))))))))))))
  refine iY [(0, _), (5, _), (6, _)] (fun (_ : Unit) => []) (fun (_ : Unit) W => ∃ pv2 gv2 A2 nw2, Gf A2 = (s.iF on).c.un ∧ wz s.hl A2 ∧ V w0 W (dS y (.cells (.pointer (some ⟨Yl, 0, none⟩) :: .pointer (some ⟨JG, 0, none⟩) :: .pointer (some ⟨JH, 0, none⟩) :: JI :: JJ :: .int .i64 s.c.place :: .string (jS s.hl s.c.tx s.c.place) :: pv2 :: gv2 :: .int .i64 s.c.mode :: .bool s.c.over :: .int .i64 s.c.res :: .bool s.c.run :: JK :: JL :: JM :: JO :: JQ :: JR :: JU :: JV :: JW :: JX :: JY :: JZ :: .bool s.given :: .bool s.minus :: .int .i64 s.arg :: .int .i64 s.Ae :: .int .i64 s.U8 :: .int .i64 s.U9 :: .int .i64 s.su :: .bool false :: .int .i64 s.cls :: .int .i64 Pv :: .int .i64 Px :: .bool s.argues :: .bool s.killed :: .bool s.lT :: nw2 :: .bool s.whole :: .bool Py :: []).toArray 174 (0, 0)) • nD .i64 pv2 (A2.map (·.1)) • vV 1 gv2 A2.length (A2.map (·.2.1)) • rC A2 • Row 189 3 nw2 0 [] • kW [] • oO JG s.c.L s.c.pt s.c.mark • mQ JH s.c.E s.c.at_ • vV 1 JI (s.hl.length + 1) (strs (oM s.hl)) • Row 9 1 JJ (s.hl.length + 1) (strs (vT s.hl s.c.tx)) • jF Yl s.hl s.base s.most • Cc s.inn s.hl s.was [JK, JL, JM, JO, JQ, JR, JU, JV, JW, JX, JY, JZ] • F)) qC ?_ ?_
  · rintro _ w3 ⟨pv2, gv2, A2, nw2, hl2, hp2, HJ⟩
    dsimp only [List.cons_append, List.nil_append]
    refine iY [(0, _)] (fun (_ : Unit) => []) (fun (_ : Unit) W => V w0 W (dS y (.cells (.pointer (some ⟨Yl, 0, none⟩) :: .pointer (some ⟨JG, 0, none⟩) :: .pointer (some ⟨JH, 0, none⟩) :: JI :: JJ :: .int .i64 s.c.place :: .string (jS s.hl s.c.tx s.c.place) :: pv2 :: gv2 :: .int .i64 s.c.mode :: .bool s.c.over :: .int .i64 s.c.res :: .bool rn :: JK :: JL :: JM :: JO :: JQ :: JR :: JU :: JV :: JW :: JX :: JY :: JZ :: .bool s.given :: .bool s.minus :: .int .i64 s.arg :: .int .i64 s.Ae :: .int .i64 s.U8 :: .int .i64 s.U9 :: .int .i64 s.su :: .bool false :: .int .i64 s.cls :: .int .i64 Pv :: .int .i64 Px :: .bool s.argues :: .bool s.killed :: .bool s.lT :: nw2 :: .bool s.whole :: .bool Py :: []).toArray 174 (0, 0)) • nD .i64 pv2 (A2.map (·.1)) • vV 1 gv2 A2.length (A2.map (·.2.1)) • rC A2 • Row 189 3 nw2 0 [] • kW [] • oO JG s.c.L s.c.pt s.c.mark • mQ JH s.c.E s.c.at_ • vV 1 JI (s.hl.length + 1) (strs (oM s.hl)) • Row 9 1 JJ (s.hl.length + 1) (strs (vT s.hl s.c.tx)) • jF Yl s.hl s.base s.most • Cc s.inn s.hl s.was [JK, JL, JM, JO, JQ, JR, JU, JV, JW, JX, JY, JZ] • F)) ji ?_ ?_
    · rintro _ w4 HJ2
      dsimp only [List.cons_append, List.nil_append]
      refine bM O (jr O O (nZ O O (bK 33 aS O aF O (gJ aP O (HJ2).get.2 O (dQ O (bK 28 aS O aF O (aO (lG 28 HJ2 aF) ?_)))))))
      rintro _ w5 H5
      refine dQ O (bK 29 aS O aF O (aO (lG 29 H5 aF) ?_))
      rintro _ w6 H6
      refine dQ O (bK 30 aS O aF O (aO (lG 30 H6 aF) ?_))
      rintro _ w7 H7
      refine qW (bM O (dQ O (bK 33 aS O aF O (gJ aP O (H7).get.2 O (Z (cZ O O) (gQ O (fun h3 => ?_) (fun h3 => ?_)))))))
      · (try simp only [aC] at h3)
        have hcT : s.cls = 2 := h3
        obtain ⟨rfl, rfl⟩ := qL.XY hin (qL.rx.2.2 hin hcT)
        have aal := H7.drew
        have uU := V.kp (aal.f12.f12.f12.f12.f12.f12.f12.f12.f12.f12.f12.f12)
        refine yY [5, 9] uU O (jW 0 O uU O (jW 1 O uU O (jW 2 O uU O (kV 3 O uU O (iJ 4 O uU 34 aS O aF O (kK 5 O uU (fun W hW => kQ aP O ((Kp.h hW)).get.2 O) (jW 6 O uU O (kV 7 O uU O (iJ 8 O uU 35 aS O aF O (kK 9 O uU (fun W hW => kQ aP O ((Kp.h hW)).get.2 O) (kV 10 O uU O (iJ 11 O uU 29 aS O aF O ?_))))))))))))
        refine gX 12 O (by kernel_rfl) (lG 29 aal aF) ?_
        rintro _ w8 H8
        have Qn := V.kp (H8.f12.f12.f12.f12.f12.f12.f12.f12.f12.f12.f12.f12)
        refine iD Qn (by kernel_rfl) ?_
        refine kV 13 O Qn O (iJ 14 O Qn 30 aS O aF O ?_)
        refine gX 15 O (by kernel_rfl) (lG 30 H8 aF) ?_
        rintro _ w9 H9
        have Qo := V.kp (H9.f12.f12.f12.f12.f12.f12.f12.f12.f12.f12.f12.f12)
        refine iD Qo (by kernel_rfl) ?_
        refine sK (aW (aK (bM O (dQ O (bK 36 aS O aT O (gJ bW O (H9).get.2 O (Z (mD O) (gQ O (fun h4 => ?_) (fun h4 => ?_)))))))))
        · (try simp only [aC] at h4)
          have haF : ¬ s.argues = true := by simp_all
          refine aA (jr O O (nZ O O (bK 25 aS O aT O (aO (lG 25 H9 aT) ?_))))
          rintro _ w10 rD
          refine dQ O (bK 26 aS O aT O (aO (lG 26 rD aT) ?_))
          rintro _ ED rM
          refine dQ O (bK 27 aS O aF O (aO (lG 27 rM aF) ?_))
          rintro _ w12 vX
          refine iy (jB O (dF results64 O ?_))
          refine ⟨O, ?_⟩
          rw [hon] at hl2
          have hG := qL.good hl2 hp2
          rw [vU] at hG ⊢
          have HX := vX.f12.right.f6.f6.f11.f7.f7.f7.f11.f11.f11.f11.f11
          have Uw := HX.Eu (hl := s.hl) (c := s.was) hu1
          have HX3 := Uw.f12.f12.f12.f12.f12.f12.f12.f12.f12.f12.f12
          first | simp only [if_pos hcT] at hG ⊢ | simp only [if_neg hcF] at hG ⊢
          first | simp only [if_pos haT] at hG ⊢ | simp only [if_neg haF] at hG ⊢
          rw [← hrn] at hG ⊢
          exact V.tV hG HX3
        · (try simp only [aC] at h4)
          have haT : s.argues = true := by simp_all
          refine fG (jB O (dF results64 O ?_))
          refine ⟨O, ?_⟩
          rw [hon] at hl2
          have hG := qL.good hl2 hp2
          rw [vU] at hG ⊢
          have HX := H9.f12.right.f6.f6.f11.f7.f7.f7.f11.f11.f11.f11.f11
          have Uw := HX.Eu (hl := s.hl) (c := s.was) hu1
          have HX3 := Uw.f12.f12.f12.f12.f12.f12.f12.f12.f12.f12.f12
          first | simp only [if_pos hcT] at hG ⊢ | simp only [if_neg hcF] at hG ⊢
          first | simp only [if_pos haT] at hG ⊢ | simp only [if_neg haF] at hG ⊢
          rw [← hrn] at hG ⊢
          exact V.tV hG HX3
      · (try simp only [aC] at h3)
        have hcF : ¬ s.cls = 2 := h3
        refine fG (aK (bM O (dQ O (bK 36 aS O aT O (gJ bW O (H7).get.2 O (Z (mD O) (gQ O (fun h5 => ?_) (fun h5 => ?_))))))))
        · (try simp only [aC] at h5)
          have haF : ¬ s.argues = true := by simp_all
          refine aA (jr O O (nZ O O (bK 25 aS O aT O (aO (lG 25 H7 aT) ?_))))
          rintro _ PO xM
          refine dQ O (bK 26 aS O aT O (aO (lG 26 xM aT) ?_))
          rintro _ TN BJ
          refine dQ O (bK 27 aS O aF O (aO (lG 27 BJ aF) ?_))
          rintro _ TV zH
          refine iy (jB O (dF results64 O ?_))
          refine ⟨O, ?_⟩
          rw [hon] at hl2
          have hG := qL.good hl2 hp2
          rw [vU] at hG ⊢
          have HX := zH.f12.right.f6.f6.f11.f7.f7.f7.f11.f11.f11.f11.f11
          have Uw := HX.Eu (hl := s.hl) (c := s.was) hu1
          have HX3 := Uw.f12.f12.f12.f12.f12.f12.f12.f12.f12.f12.f12
          first | simp only [if_pos hcT] at hG ⊢ | simp only [if_neg hcF] at hG ⊢
          first | simp only [if_pos haT] at hG ⊢ | simp only [if_neg haF] at hG ⊢
          rw [← hrn] at hG ⊢
          exact V.tV hG HX3
        · (try simp only [aC] at h5)
          have haT : s.argues = true := by simp_all
          refine fG (jB O (dF results64 O ?_))
          refine ⟨O, ?_⟩
          rw [hon] at hl2
          have hG := qL.good hl2 hp2
          rw [vU] at hG ⊢
          have HX := H7.f12.right.f6.f6.f11.f7.f7.f7.f11.f11.f11.f11.f11
          have Uw := HX.Eu (hl := s.hl) (c := s.was) hu1
          have HX3 := Uw.f12.f12.f12.f12.f12.f12.f12.f12.f12.f12.f12
          first | simp only [if_pos hcT] at hG ⊢ | simp only [if_neg hcF] at hG ⊢
          first | simp only [if_pos haT] at hG ⊢ | simp only [if_neg haF] at hG ⊢
          rw [← hrn] at hG ⊢
          exact V.tV hG HX3
    · skip
      refine aA (jr O O (iZ O (fun h6 => ?_) (fun h6 => ?_)))
      · (try simp only [aC] at h6)
        refine bg (bG O (bg (dQ O (bg (bK 40 aS O aT O (bg (gJ bW O (HJ).get.2 O (iM O O (iZ O (fun h7 => ?_) (fun h7 => ?_))))))))))
        · (try simp only [aC] at h7)
          refine bg (bG O (bg (iZ O (fun h8 => ?_) (fun h8 => ?_))))
          · (try simp only [aC] at h8)
            refine bn (bn (bn (bn (bn (bg (iM O O (iM O O (dQ O (bK 1 aS O fD O (bK 11 dD O aT O (aO (lG 12 HJ aT) ?_)))))))))))
            rintro _ w16 zB
            refine bD ?_
            refine cO (()) ?_ ?_ ?_
            · exact (Sub.nil _)
            · exact ji
            · (try dsimp only)
              first | done | exact (by first | (rw [show rn = true from by rw [Ey]; simp_all; done]; exact zB.f12.f12.f12.f12.f12.f12.f12.f12.f12.f12.f12.f12) | (rw [show rn = false from by rw [Ey]; simp_all; done]; exact zB.f12.f12.f12.f12.f12.f12.f12.f12.f12.f12.f12.f12) | (rw [show rn = s.c.run from by rw [Ey]; simp_all; done]; exact zB.f12.f12.f12.f12.f12.f12.f12.f12.f12.f12.f12.f12))
          · (try simp only [aC] at h8)
            refine bg (bG O (bg (dQ O (bg (bK 1 aS O fD O (bg (bK 11 dD O aT O (bg (gJ bW O (HJ).get.2 O (bg (gI O O (iM O O (dQ O (bK 1 aS O fD O (bK 11 dD O aT O (aO (lG 12 HJ aT) ?_))))))))))))))))
            rintro _ ZY Jo
            refine bD ?_
            refine cO (()) ?_ ?_ ?_
            · exact (Sub.nil _)
            · exact ji
            · (try dsimp only)
              first | done | exact (by first | (rw [show rn = true from by rw [Ey]; simp_all; done]; exact Jo.f12.f12.f12.f12.f12.f12.f12.f12.f12.f12.f12.f12) | (rw [show rn = false from by rw [Ey]; simp_all; done]; exact Jo.f12.f12.f12.f12.f12.f12.f12.f12.f12.f12.f12.f12) | (rw [show rn = s.c.run from by rw [Ey]; simp_all; done]; exact Jo.f12.f12.f12.f12.f12.f12.f12.f12.f12.f12.f12.f12))
        · (try simp only [aC] at h7)
          refine bn (bn (mV (mV (mV (mV (mV (bn (gI O O (dQ O (bK 1 aS O fD O (bK 11 dD O aT O (aO (lG 12 HJ aT) ?_))))))))))))
          rintro _ YE DT
          refine bD ?_
          refine cO (()) ?_ ?_ ?_
          · exact (Sub.nil _)
          · exact ji
          · (try dsimp only)
            first | done | exact (by first | (rw [show rn = true from by rw [Ey]; simp_all; done]; exact DT.f12.f12.f12.f12.f12.f12.f12.f12.f12.f12.f12.f12) | (rw [show rn = false from by rw [Ey]; simp_all; done]; exact DT.f12.f12.f12.f12.f12.f12.f12.f12.f12.f12.f12.f12) | (rw [show rn = s.c.run from by rw [Ey]; simp_all; done]; exact DT.f12.f12.f12.f12.f12.f12.f12.f12.f12.f12.f12.f12))
      · (try simp only [aC] at h6)
        refine bn (bn (bn (bn (gI O O (bG O (bn (bn (mV (mV (mV (mV (mV (bn (gI O O (dQ O (bK 1 aS O fD O (bK 11 dD O aT O (aO (lG 12 HJ aT) ?_))))))))))))))))))
        rintro _ w19 EO
        refine bD ?_
        refine cO (()) ?_ ?_ ?_
        · exact (Sub.nil _)
        · exact ji
        · (try dsimp only)
          first | done | exact (by first | (rw [show rn = true from by rw [Ey]; simp_all; done]; exact EO.f12.f12.f12.f12.f12.f12.f12.f12.f12.f12.f12.f12) | (rw [show rn = false from by rw [Ey]; simp_all; done]; exact EO.f12.f12.f12.f12.f12.f12.f12.f12.f12.f12.f12.f12) | (rw [show rn = s.c.run from by rw [Ey]; simp_all; done]; exact EO.f12.f12.f12.f12.f12.f12.f12.f12.f12.f12.f12.f12))
  · skip
    refine aA (jr O O (iZ O (fun h9 => ?_) (fun h9 => ?_)))
    · (try simp only [aC] at h9)
      refine bg (bG O (bg (dQ O (bg (bK 40 aS O aT O (bg (gJ bW O (H2).get.2 O (iM O O (iZ O (fun h10 => ?_) (fun h10 => ?_))))))))))
      · (try simp only [aC] at h10)
        refine bg (bG O (bg (dQ O (bg (bK 1 aS O fD O (bg (bK 11 dD O aT O (bg (gJ bW O (H2).get.2 O (iM O O (dX O func116 (zY X6 hplA Ry abz hxA abA H2.f11.f11.f10.f10.f10.f6) ?_)))))))))))
        rintro _ w20 ⟨afZ, af0, A20, af1, abB, adp, Qd⟩
        have Bz := abB
        have X7 := adp
        first
          | rw [show s.c.run = on from by rw [OB]; simp_all] at Bz
          | rw [show false = on from by rw [OB]; simp_all] at Bz
        refine bD ?_
        refine cO (()) ?_ ?_ ?_
        · exact (Sub.nil _)
        · exact qC
        · (try dsimp only)
          first | done | exact ⟨_, _, _, _, Bz, X7, Qd.f12.f12.f12.f12.f12.f12.f12.f12.f12.f12.f12.f12⟩
      · (try simp only [aC] at h10)
        refine bn (bn (bn (bn (bn (gI O O (dX O func116 (zY X6 hplA Ry abz hxA abA H2.f11.f11.f10.f10.f10.f6) ?_))))))
        rintro _ w21 ⟨af2, af3, A21, af4, abC, adq, Jz⟩
        have Bz := abC
        have X7 := adq
        first
          | rw [show s.c.run = on from by rw [OB]; simp_all] at Bz
          | rw [show false = on from by rw [OB]; simp_all] at Bz
        refine bD ?_
        refine cO (()) ?_ ?_ ?_
        · exact (Sub.nil _)
        · exact qC
        · (try dsimp only)
          first | done | exact ⟨_, _, _, _, Bz, X7, Jz.f12.f12.f12.f12.f12.f12.f12.f12.f12.f12.f12.f12⟩
    · (try simp only [aC] at h9)
      refine bn (bn (bn (bn (gI O O (bG O (bn (bn (bn (bn (bn (gI O O (dX O func116 (zY X6 hplA Ry abz hxA abA H2.f11.f11.f10.f10.f10.f6) ?_))))))))))))
      rintro _ w22 ⟨af5, af6, A22, af7, abD, adr, Qe⟩
      have Bz := abD
      have X7 := adr
      first
        | rw [show s.c.run = on from by rw [OB]; simp_all] at Bz
        | rw [show false = on from by rw [OB]; simp_all] at Bz
      refine bD ?_
      refine cO (()) ?_ ?_ ?_
      · exact (Sub.nil _)
      · exact qC
      · (try dsimp only)
        first | done | exact ⟨_, _, _, _, Bz, X7, Qe.f12.f12.f12.f12.f12.f12.f12.f12.f12.f12.f12.f12⟩
theorem PG (H : V w0 w (pX y s • F)) : ig prog 64 #[.pointer (some ⟨y, 0, none⟩), .int .i64 x] w fun v w' => v = .int .i64 (s.AU x) ∧ V w0 w' (pX y (s.Df x) • F) := by
 by_cases hin : s.inn = true
 ·by_cases hx : x = 0
  ·subst hx
   rw [show s.Df 0 = s.qj from by unfold dN.Df; rw [if_pos hin, if_pos rfl], show s.AU 0 = 0 from by unfold dN.AU; rw [if_pos hin]]
   exact Nc hin H
  ·rw [(BP hin hx).1, (BP hin hx).2]
   exact PE hin hx H
 ·have hin' : s.inn = false := by simpa using hin
  rw [show s.Df x = s from by unfold dN.Df; rw [if_neg hin], show s.AU x = 1 from by unfold dN.AU; rw [if_neg hin]]
  refine nC func64 ntmps64 ?_
  refine jy O (aK (aK ?_))
  obtain ⟨Yl, JG, JH, JI, JJ, UN, UO, A_y, UQ, UR, Pv, Px, Py, JK, JL, JM, JO, JQ, JR, JU, JV, JW, JX, JY, JZ, qL, Dy, wB⟩ := (H).Pn
  refine aA (nZ O O (bK 32 aS O aT O (gJ bW O (wB).get.2 O (Z (mD O) (gQ O (fun h1 => ?_) (fun h => by exfalso; (try simp only [aC] at h); simp [hin'] at h))))))
  (try simp only [aC] at h1)
  refine jB O (ay (dF results64 O ?_))
  have Ua := wB.f12.f12.f12.f12.f12.f12.f12.f12.f12.f12.f12.f12
  have RV := V.tV (s := s) qL Ua
  exact ⟨O, RV⟩
end
theorem PI (hl : List qQ) : jS hl (fun _ => none) (hl.length : Int) = .empty := by
  unfold jS zK Ob
  rw [if_neg (by omega)]; rfl
section
variable {w0 w : World} {F : HP} {y h : Nat} {s : dN} {hl : List qQ} {base most : Int} {l : List Int} {v : Value}
set_option maxHeartbeats 1000000 in
theorem Ez {x0 x1 x2 x3 x4 x5 x6 x7 x8 x9 x10 x11 x12 wC x14 x15 x16 x17 x18 x19 x20 x21 wQ x23 x24 x25 xq x27 x28 x29 x30 x31 yc x34 ND NG NH x38 x39 x40 x41 : Value} {b : Bool} (hb : b = false) (H : V w0 w (dS y (.cells (x0 :: x1 :: x2 :: x3 :: x4 :: x5 :: x6 :: x7 :: x8 :: x9 :: x10 :: x11 :: x12 :: wC :: x14 :: x15 :: x16 :: x17 :: x18 :: x19 :: x20 :: x21 :: wQ :: x23 :: x24 :: x25 :: xq :: x27 :: x28 :: x29 :: x30 :: x31 :: .bool b :: yc :: x34 :: ND :: NG :: NH :: x38 :: x39 :: x40 :: x41 :: []).toArray 174 (0, 0)) • jF h hl base most • F)) (hr : jE w0 F .i32 v l) (hshort : l.length ≤ 1024) : ig prog 60 #[.pointer (some ⟨y, 0, none⟩), .pointer (some ⟨h, 0, none⟩), v] w fun v' w' => v' = .int .i64 0 ∧ ∃ ph pb wv nv,
    V w0 w' (dS y (.cells (.pointer (some ⟨ph, 0, none⟩) :: .pointer (some ⟨pb, 0, none⟩) :: x2 :: wv :: nv :: .int .i64 hl.length :: .string .empty :: .slice none 0 0 :: .slice none 0 0 :: x9 :: .bool false :: .int .i64 0 :: .bool false :: wC :: x14 :: x15 :: x16 :: x17 :: x18 :: x19 :: x20 :: x21 :: wQ :: x23 :: x24 :: .bool false :: .bool false :: .int .i64 (-1) :: .int .i64 0 :: .int .i64 0 :: .int .i64 0 :: x31 :: .bool b :: yc :: x34 :: ND :: NG :: NH :: x38 :: x39 :: x40 :: x41 :: []).toArray 174 (0, 0)) •
      oO pb l l.length (-1) • vV 1 wv (hl.length + 1) (strs (oM hl)) • Row 9 1 nv (hl.length + 1) (strs (vT hl (fun _ => none))) • jF ph hl base most • jF h hl base most • F) := by
  refine DL func60 ntmps60 ?_
  refine jy O (aK (bM O (Z (jm qM O O) (iy (NC O (fun h1 => ?_))))))
  (try simp only [aC] at h1)
  refine fG (aK (bM O (dQ O (bK 32 aS O aT O (gJ bW O (H).get.2 O (gQ O (fun h => by exfalso; (try simp only [aC] at h); simp [hb] at h) (fun h2 => ?_)))))))
  (try simp only [aC] at h2)
  refine fG (bM O (dX O func112 (Pm H (fun W HW => hr _ (HW.right.right)) hshort) ?_))
  rintro _ w1 ⟨p1, rfl, H1⟩
  refine bG O (rW O O (rW O O (dL O (tX O (bM O (Z (jv O O) (iy (NC O (fun h3 => ?_)))))))))
  (try simp only [aC] at h3)
  refine fG (bM O (bG O (dX O func113 (F8 H1.f3) ?_)))
  rintro _ w2 ⟨q2, rfl, H2⟩
  refine dQ O (bK 0 aS O sizeOf104 O (aO (lG 0 H2.f4 sizeOf104) ?_))
  rintro _ w3 H3
  refine sH O (nZ O O (bK 1 aS O fD O (bK 0 dD O sizeOf163 O (aO (lG 1 H3 sizeOf163) ?_))))
  rintro _ w4 H4
  refine sH O (nZ O O (bK 0 aS O sizeOf104 O (gJ qM O (H4).get.2 O (dX O func114 (JE H4.f2) ?_))))
  rintro _ w5 ⟨q5, ov5, nv5, rfl, H5⟩
  refine dQ O (Z (fP gV O nU O O (H5).get.2) (dQ O (bK 1 aS O fD O (bK 2 dD O nU O (aO (dw 3 (l' := [_, _, _, _, _, _, _, _, _, _, _, _, _, _, _, _, _, _, _, _, _, _, _, _, _, _, _, _, _, _, _, _, _, _, _, _, _, _, _, _, _, _]) (us := [_, _, _]) H5.f5 nU O O O (bf (by first | rfl | exact Rd.one ((H5.f2).aY)) (bf (by first | rfl | exact Rd.one ((H5.f3).aY)) (aH bP))) O O) ?_)))))
  rintro _ w6 H6
  refine sH O (dQ O (bK 1 aS O fD O (bK 5 dD O pK O (aO (lG 6 H6 pK) ?_))))
  rintro _ w7 H7
  refine sH O (Z (eX (zl := [.slice none 0 0, .slice none 0 0]) (pl := [(0, 1), (1, 1)]) [_, _] jT zeroValue170 O (fun w => by kernel_rfl) O (.zero (zs := [.slice none 0 0]) O (.zero (zs := [.slice none 0 0]) O .nil)) O) (dQ O (bK 1 aS O fD O (bK 6 dD O sizeOf170 O (aO (dw 7 (l' := [_, _, _, _, _, _, _, _, _, _, _, _, _, _, _, _, _, _, _, _, _, _, _, _, _, _, _, _, _, _, _, _, _, _, _, _, _, _, _, _, _, _]) (us := [_, _]) H7 sizeOf170 O O O (aH (aH bP)) O O) ?_)))))
  rintro _ w8 H8
  refine sH O (jr O O (dQ O (bK 1 aS O fD O (bK 9 dD O aT O (aO (lG 10 H8 aT) ?_)))))
  rintro _ w9 H9
  refine dQ O (bK 1 aS O fD O (bK 10 dD O aF O (aO (lG 11 H9 aF) ?_)))
  rintro _ w10 rD
  refine dQ O (bK 1 aS O fD O (bK 11 dD O aT O (aO (lG 12 rD aT) ?_)))
  rintro _ ED rM
  refine sH O (jr O O (dQ O (bK 25 aS O aT O (aO (lG 25 rM aT) ?_))))
  rintro _ w12 vX
  refine dQ O (bK 26 aS O aT O (aO (lG 26 vX aT) ?_))
  rintro _ PO xM
  refine dQ O (bK 27 aS O aF O (aO (lG 27 xM aF) ?_))
  rintro _ TN BJ
  refine sH O (jr O O (dQ O (bK 28 aS O aF O (aO (lG 28 BJ aF) ?_))))
  rintro _ TV zH
  refine dQ O (bK 29 aS O aF O (aO (lG 29 zH aF) ?_))
  rintro _ w16 zB
  refine dQ O (bK 30 aS O aF O (aO (lG 30 zB aF) ?_))
  rintro _ ZY Jo
  refine iy (jB O (dF results60 O ?_))
  have HQ := (Jo.f2.right.f5.f5.f5.f6.f5.f6).E5
  rw [BR, ← Jg] at HQ
  exact ⟨O, _, _, _, _, by rw [← Jg]; exact HQ.f2.f3.f2⟩
theorem abE (hl : List qQ) (base most : Int) : kG (dN.new hl base most) [] [] 0 0 :=
  ⟨Md hl base most, ⟨⟨fun k => ⟨by show jd [] [] ≤ 16384; decide, by show ∀ g ∈ [], _; simp⟩, by show (0 : Nat) ≤ 60; decide, .inr rfl, by show ∀ e ∈ [], _; simp⟩, fun hi => absurd hi (by show ¬ false = true; decide), fun hi => absurd hi (by show ¬ false = true; decide)⟩, rfl, rfl, ⟨List.nodup_nil, by simp⟩, fun hi => absurd hi (by show ¬ false = true; decide)⟩
theorem PK (H : V w0 w (jF h hl base most • F)) : ig prog 58 #[.pointer (some ⟨h, 0, none⟩)] w fun v' w' => ∃ y, v' = .tuple #[.pointer (some ⟨y, 0, none⟩), .int .i64 0] ∧ V w0 w' (pX y (dN.new hl base most) • jF h hl base most • F) := by
  refine iK func58 ntmps58 ?_
  refine gW (dL O (tX O (bM O (Z (jm qM O O) (iy (NC O (fun h1 => ?_)))))))
  (try simp only [aC] at h1)
  refine fG (gW (Z (eX (zl := [.pointer none, .pointer none, .pointer none, .slice none 0 0, .slice none 0 0, .int .i64 0, .string .empty, .slice none 0 0, .slice none 0 0, .int .i64 0, .bool false, .int .i64 0, .bool false, .pointer none, .pointer none, .slice none 0 0, .slice none 0 0, .int .i64 0, .string .empty, .slice none 0 0, .slice none 0 0, .int .i64 0, .bool false, .int .i64 0, .bool false, .bool false, .bool false, .int .i64 0, .int .i64 0, .int .i64 0, .int .i64 0, .int .i64 0, .bool false, .int .i64 0, .int .i64 0, .int .i64 0, .bool false, .bool false, .bool false, .slice none 0 0, .bool false, .bool false]) (pl := [(0, 1), (1, 12), (13, 12), (25, 1), (26, 1), (27, 1), (28, 1), (29, 1), (30, 1), (31, 1), (32, 1), (33, 1), (34, 1), (35, 1), (36, 1), (37, 1), (38, 1), (39, 1), (40, 1), (41, 1)]) [_, _, _, _, _, _, _, _, _, _, _, _, _, _, _, _, _, _, _, _, _, _, _, _, _, _, _, _, _, _, _, _, _, _, _, _, _, _, _, _, _, _] aS zeroValue174 O (fun w => by kernel_rfl) O (.zero (zs := [.pointer none]) O (.zero (zs := [.pointer none, .pointer none, .slice none 0 0, .slice none 0 0, .int .i64 0, .string .empty, .slice none 0 0, .slice none 0 0, .int .i64 0, .bool false, .int .i64 0, .bool false]) O (.zero (zs := [.pointer none, .pointer none, .slice none 0 0, .slice none 0 0, .int .i64 0, .string .empty, .slice none 0 0, .slice none 0 0, .int .i64 0, .bool false, .int .i64 0, .bool false]) O (.zero (zs := [.bool false]) O (.zero (zs := [.bool false]) O (.zero (zs := [.int .i64 0]) O (.zero (zs := [.int .i64 0]) O (.zero (zs := [.int .i64 0]) O (.zero (zs := [.int .i64 0]) O (.zero (zs := [.int .i64 0]) O (.zero (zs := [.bool false]) O (.zero (zs := [.int .i64 0]) O (.zero (zs := [.int .i64 0]) O (.zero (zs := [.int .i64 0]) O (.zero (zs := [.bool false]) O (.zero (zs := [.bool false]) O (.zero (zs := [.bool false]) O (.zero (zs := [.slice none 0 0]) O (.zero (zs := [.bool false]) O (.zero (zs := [.bool false]) O .nil)))))))))))))))))))) O) (jL (jf (l := [_, _, _, _, _, _, _, _, _, _, _, _, _, _, _, _, _, _, _, _, _, _, _, _, _, _, _, _, _, _, _, _, _, _, _, _, _, _, _, _, _, _]) H O O) ?_)))
  rintro _ w1 ⟨b1, rfl, H1⟩
  refine fV O (bM O (Z (eX (zl := [.slice none 0 0, .int .i64 0]) (pl := [(0, 1), (1, 1)]) [_, _] underlying176 zeroValue176 O (fun w => by kernel_rfl) O (.zero (zs := [.slice none 0 0]) O (.zero (zs := [.int .i64 0]) O .nil)) O) (jL (jf (l := [_, _]) H1 O O) ?_)))
  rintro _ w2 ⟨b2, rfl, H2⟩
  refine dQ O (bK 1 aS O fD O (bK 1 dD O sizeOf164 O (aO (lG 2 H2.f2 sizeOf164) ?_)))
  rintro _ w3 H3
  refine sH O (bG O (dX O func60 (Ez (l := []) O H3.f2.f3.f3 (fun W _ => dR.nil W _ none 0 (by decide)) (by decide)) ?_))
  rintro _ w4 ⟨rfl, ph, pb, wv, nv, H4⟩
  refine sH O (dL O (dU O (Az results58 O O ?_)))
  have HR := ((H4.f6.f6.f6.f6.f6.f6.f7).NS (k := .i32)).jk (e := 22) (sz := 1) none
  have HR2 := (V.Je (E := []) (place := 0) (HR.ZM (ls := [])).swap)
  have HR3 := ((HR2.Ph.Rt (sz := 1) none).Pj (k := .i64) none)
  have hT := PI hl
  refine ⟨_, O, V.Tt (s := dN.new hl base most) (h := ph) (pb := pb) (pk := b2) (wv := wv) (nv := nv) (pv := .slice none 0 0) (gv := .slice none 0 0) (ch := false) (u0 := .pointer none) (u1 := .pointer none) (u2 := .slice none 0 0) (u3 := .slice none 0 0) (u4 := .int .i64 0) (u5 := .string .empty) (u6 := .slice none 0 0) (u7 := .slice none 0 0) (u8 := .int .i64 0) (u9 := .bool false) (ua := .int .i64 0) (ub := .bool false) (abE hl base most) O ?_ ?_⟩
  · show V w0 _ (dS _ (.cells (_ :: _ :: _ :: _ :: _ :: _ :: .string (jS hl (fun _ => none) (hl.length : Int)) :: _).toArray _ (0, 0)) • _)
    rw [hT]
    exact HR3.f10.f10.f5.f5.f5.f10.f10.f8.f10.f10
  · rfl
theorem X8 {es : List eG} {A : List LE} {yf yt : Int} (h : kG s es A yf yt) (hi : s.inn = false) (hl : List qQ) (base most : Int) (l : List Int) : kG (s.start hl base most l) es [] yf yt :=
  ⟨Po h.ok hi _ _ _ _, ⟨⟨fun k => ⟨by show jd [] [] ≤ 16384; decide, by show ∀ g ∈ [], _; simp⟩, h.rx.1.2⟩, fun h2 => absurd (show s.inn = true from h2) (by rw [hi]; decide), fun h2 => absurd (show s.inn = true from h2) (by rw [hi]; decide)⟩, h.says, rfl, ⟨List.nodup_nil, by simp⟩, fun h2 => absurd (show s.inn = true from h2) (by rw [hi]; decide)⟩
theorem J4 (H : V w0 w (pX y s • jF h hl base most • F)) (hr : jE w0 F .i32 v l) : ig prog 60 #[.pointer (some ⟨y, 0, none⟩), .pointer (some ⟨h, 0, none⟩), v] w fun v' w' =>
  v' = .int .i64 (s.rV l) ∧ V w0 w' (pX y (s.Dx hl base most l) • jF h hl base most • F) := by
 by_cases hin : s.inn = true
 ·have hE : s.rV l = 1 := by unfold dN.rV; rw [if_pos hin]
  unfold dN.Dx
  rw [if_neg (by rw [hE]; decide), hE]
  refine DL func60 ntmps60 ?_
  refine jy O (aK (bM O (Z (jm qM O O) (iy (NC O (fun h1 => ?_))))))
  (try simp only [aC] at h1)
  refine fG (aK (aK ?_))
  obtain ⟨Yl, JG, JH, JI, JJ, UN, UO, A_y, UQ, UR, Pv, Px, Py, JK, JL, JM, JO, JQ, JR, JU, JV, JW, JX, JY, JZ, qL, Dy, wB⟩ := (H).Pn
  refine aA (nZ O O (bK 32 aS O aT O (gJ bW O (wB).get.2 O (gQ O (fun h2 => ?_) (fun h => by exfalso; (try simp only [aC] at h); simp [hin] at h)))))
  (try simp only [aC] at h2)
  refine jB O (ay (dF results60 O ?_))
  have Ua := wB.f12.f12.f12.f12.f12.f12.f12.f12.f12.f12.f12.f12
  have RV := V.tV (s := s) qL Ua
  exact ⟨O, RV.f2.f2⟩
 ·have hi : s.inn = false := by simpa using hin
  by_cases hlen : 1024 < l.length
  ·have hE : s.rV l = 3 := by unfold dN.rV; rw [if_neg hin, if_pos hlen]
   unfold dN.Dx
   rw [if_neg (by rw [hE]; decide), hE]
   refine DL func60 ntmps60 ?_
   refine jy O (aK (bM O (Z (jm qM O O) (iy (NC O (fun h1 => ?_))))))
   (try simp only [aC] at h1)
   refine fG (aK (aK ?_))
   obtain ⟨Yl, JG, JH, JI, JJ, UN, UO, A_y, UQ, UR, Pv, Px, Py, JK, JL, JM, JO, JQ, JR, JU, JV, JW, JX, JY, JZ, qL, Dy, wB⟩ := (H).Pn
   refine aA (nZ O O (bK 32 aS O aT O (gJ bW O (wB).get.2 O ?_)))
   have Ua := wB.f12.f12.f12.f12.f12.f12.f12.f12.f12.f12.f12.f12
   have RV := V.tV (s := s) qL Ua
   refine gQ O (fun h => by exfalso; (try simp only [aC] at h); simp [hi] at h) (fun h2 => ?_)
   (try simp only [aC] at h2)
   refine fG (bM O (dX O func112 (MW RV (fun W HW => hr W HW.right.right) hlen) ?_))
   rintro _ _ ⟨rfl, rfl⟩
   refine bG O (rW O O (rW O O (dL O (tX O (bM O (Z (jv O O) (iy (wcE O (fun h3 => ?_)))))))))
   (try simp only [aC] at h3)
   refine bM O (dU O (ay (dF results60 O ?_)))
   exact ⟨O, RV.f2.f2⟩
  ·have hE : s.rV l = 0 := by unfold dN.rV; rw [if_neg hin, if_neg hlen]
   unfold dN.Dx
   rw [if_pos hE, hE]
   obtain ⟨h0, pb, pk, wv, nv, pv, gv, A, nw, es, yf, yt, ch, u0, u1, u2, u3, u4, u5, u6, u7, u8, u9, ua, ub, ok, pl, H⟩ := H.Pn
   have HI := H.f13
   refine (Ez hi (hr := fun W HW => hr W HW.right.right.right.right.right.right.right.right.right.right.right) (l := l) HI.f2 (by omega)).mono fun v' w' h9 => ?_
   obtain ⟨e9, ph, pb', wv', nv', H9⟩ := h9
   refine ⟨e9, ?_⟩
   have rD := H9.f7.right.f8.right.f8.right.f8.right.f8.right.f8.right.f8.right
   have HR3 := ((rD.Ph.Rt (sz := 1) none).Pj (k := .i64) none)
   have HX := HR3.f9.f13.f13.f13.f12.f8.f8.f8.f12.f12.f13.f13.f13
   rw [← PI hl, show Cc s.inn s.hl s.was [u0, u1, u2, u3, u4, u5, u6, u7, u8, u9, ua, ub] = Cc s.inn hl s.was [u0, u1, u2, u3, u4, u5, u6, u7, u8, u9, ua, ub] from by rw [hi]; rfl] at HX
   refine V.tV (y := y) (s := s.start hl base most l) (h := ph) (pb := pb') (pk := pk) (wv := wv') (nv := nv') (pv := .slice none 0 0) (gv := .slice none 0 0) (nw := nw) (es := es) (ch := ch) (u0 := u0) (u1 := u1) (u2 := u2) (u3 := u3) (u4 := u4) (u5 := u5) (u6 := u6) (u7 := u7) (u8 := u8) (u9 := u9) (ua := ua) (ub := ub) (X8 ok hi hl base most l) ?_
   rw [show (s.start hl base most l).Ae = 0 from if_neg (by show ¬ s.inn = true; simp [hi]), show (s.start hl base most l).U8 = 0 from if_neg (by show ¬ s.inn = true; simp [hi]), show (s.start hl base most l).U9 = 0 from if_neg (by show ¬ s.inn = true; simp [hi])]
   exact HX
end
def yU (l : List Int) : dN := ((((dN.new [] 1 5).Dx [] 1 5 l).kN).zf 2).Df 0
section
variable {w0 w : World} {F : HP} {v : Value} {l : List Int}
theorem UW (H : V w0 w F) (hr : jE w0 F .i32 v l) : ig prog 21 #[v] w fun v' w' => ∃ e y, v' = .tuple #[.pointer (some ⟨e, 0, none⟩), .pointer (some ⟨y, 0, none⟩), .bool true] ∧ V w0 w' (iC e (yU l) • pX y (yU l) • F) := by
 refine iK func21 ntmps21 ?_
 refine gW (dL O (dL O (fV O (gW (dX O func55 (LW H (by omega)) ?_)))))
 rintro _ w1 ⟨p1, rfl, H1⟩
 refine bG O (rW O O (rW O O (dL O (fV O (gW (dX O func56 (JD H1 (by omega)) ?_))))))
 rintro _ w2 ⟨p2, rfl, H2⟩
 refine bG O (rW O O (rW O O (dL O (tX O (bM O (Z (jv O O) (ZI O (fun h1 => ?_))))))))
 (try simp only [aC] at h1)
 refine bg (bG O (bg (Z (jv O O) (gI O O (iy (NC O (fun h2 => ?_)))))))
 (try simp only [aC] at h2)
 refine fG (bM O (dX O func57 (QU H2.f2) ?_))
 rintro _ w3 ⟨e3, rfl, H3⟩
 refine bG O (rW O O (rW O O (dL O (fV O (bM O (dX O func58 (PK H3.f3) ?_))))))
 rintro _ w4 ⟨y4, rfl, H4⟩
 refine bG O (rW O O (rW O O (dL O (tX O (bM O (Z (jv O O) (ZI O (fun h3 => ?_))))))))
 (try simp only [aC] at h3)
 refine bg (bG O (bg (Z (jv O O) (gI O O (ZI O (fun h4 => ?_))))))
 (try simp only [aC] at h4)
 refine bg (bG O (bg (Z (jm kU O O) (gI O O (iy (NC O (fun h5 => ?_)))))))
 (try simp only [aC] at h5)
 refine fG (aK (bM O (jr O O (dX O func59 (MX H4.f4.f4 (fun W HW => hr _ (HW.right.right))) ?_))))
 rintro _ w5 ⟨rfl, H5⟩
 refine jr O O (bG O (dX O func60 (J4 H5.f4.f4 (fun W HW => hr _ (HW.right.right))) ?_))
 rintro _ w6 ⟨rfl, H6⟩
 refine Z (jv O O) (iy (NC O (fun h6 => ?_)))
 (try simp only [aC] at h6)
 refine fG (bM O (dX O func29 (Eh H6.f3) ?_))
 rintro _ w7 ⟨rfl, H7⟩
 refine sH O (dX O func61 (J3 H7.f2) ?_)
 rintro _ w8 ⟨rfl, H8⟩
 refine sH O (dX O func62 (OU H8.f2) ?_)
 rintro _ w9 ⟨rfl, H9⟩
 refine sH O (dX O func63 (Na H9.f2) ?_)
 rintro _ w10 ⟨rfl, rD⟩
 refine sH O (jr O O (dX O func31 (Dv rD.f2) ?_))
 rintro _ ED ⟨rfl, rM⟩
 refine bG O (dX O func64 (PG rM.f2) ?_)
 rintro _ w12 ⟨rfl, vX⟩
 refine Z (cZ O O) (dL O (dL O (dU O ?_)))
 refine dW (.inl O) results21 O O O ?_
 exact ⟨_, _, by simp, vX.f3.right.f3.right.f2⟩
end
def Jk : List Int := [102, 111, 111, 32, 98, 97, 114]
theorem Fb : Bd tN := ⟨7, by decide, rfl⟩
theorem Zp : pq tN [119] = 0 := IG Fb (by decide) fun h => absurd ((gG rfl).1 h).2 (by decide)
theorem Zq : pq tN [98] = 0 := IG Fb (by decide) fun h => absurd ((gG rfl).1 h).2 (by decide)
theorem Zr : pq tN [102] = 1 := OC Fb ((gG rfl).2 ⟨rfl, by decide⟩)
namespace dN
variable (s : dN)
def Zt (M : VM) (keys : List Int) : Int := (s.kN.XO M keys (max s.kN.count 1)).XD (s.kN.XM M keys (max s.kN.count 1))
def UY (M : VM) (keys : List Int) : dN := (s.kN.XO M keys (max s.kN.count 1)).doS (s.kN.XM M keys (max s.kN.count 1))
end dN
def VM.went (M : VM) (s : dN) (keys : List Int) : VM := if s.Zt M keys = 0 then M.sought s.kN.c.L s.kN.c.pt keys (max s.kN.count 1) else M
theorem X9 : tK Jk 0 119 0 1 = (4, false, true) := by kernel_rfl
theorem abF : (yU Jk).inn = false := by kernel_rfl
theorem Ya : (yU Jk).Zt VM.new [119] = 6 := by kernel_rfl
theorem abG : VM.went VM.new (yU Jk) [119] = VM.new := by unfold VM.went; rw [if_neg (by rw [Ya]; decide)]
theorem Zu : ((yU Jk).UY VM.new [119]).inn = false := by kernel_rfl
theorem abH : ((yU Jk).UY VM.new [119]).Zt VM.new [98] = 0 := by kernel_rfl
theorem abI : (((yU Jk).UY VM.new [119]).UY VM.new [98]).c.pt = 4 := by kernel_rfl
theorem UZ : ¬ (xG tN ∨ qH tN) := by
  unfold xG qH
  rintro ((h | h | h | h) | (h | h | h | h | h)) <;> exact absurd h (CV (by decide))
theorem Zv {M : VM} {keys : List Int} {n x : Int} : M.did tN keys n x = M := Dw fun h => UZ h.1
theorem Nh (s : dN) : s.kN.count = s.count := by unfold dN.kN; split <;> rfl
section
variable {w0 w : World} {F : HP} {m e : Nat} {s : dN} {keys : List Int} {kv : Value} {M : VM}
theorem Tv (H : V w0 w (qI m M • iC e s • F)) (hT : zA w0) (hi : s.inn = false) (hk : jE w0 F .i32 kv keys) (hkl : keys.length * 4 ≤ 140737488355328) (hw : pq tN keys = 0) :
    ig prog 24 #[.pointer (some ⟨m, 0, none⟩), .pointer (some ⟨e, 0, none⟩), .string tN, kv] w fun v w' => v = .int .i64 (s.Zt M keys) ∧ V w0 w' (qI m (M.went s keys) • iC e (s.UY M keys) • F) := by
  have hco := KP s (XE H.f2)
  refine (Zc H hi hk hkl hw (UG hT ?_)).mono ?_
  · rw [Nh]; omega
  · rintro v w' ⟨x, t, M', ⟨rfl, rfl, rfl⟩, rfl, H⟩
    exact ⟨rfl, by unfold VM.went; unfold VM.doM at H; rw [Zv] at H; exact H⟩
theorem BA {s : ByteArray} {l : List Int} (H : V w0 w F) (hl : Conv.runesFrom s s.size 0 #[] = (l.map (Value.int .i32)).toArray) (hb : l.length ≤ 70368744177664) :
    ig prog 34 #[.string s] w fun v w' => V w0 w' (lD 21 .i32 v l • F) := by
  refine iK func34 ntmps34 ?_
  refine jy O (bM O (jL (Fp H fB aj aQ O hl hb) ?_))
  rintro u w1 H1
  refine dU O (dF results34 O ?_)
  exact H1
theorem U0 (H : V w0 w F) (hT : zA w0) : ig prog 13 #[] w fun v w' => v = .bool true ∧ V w0 w' F := by
  refine TK func13 ntmps13 ?_
  refine jy O (gW (dX O func34 (BA H (l := Jk) (by kernel_rfl) (by decide)) ?_))
  rintro u1 w1 H1
  refine dX O func21 (UW H1 (fun W HW => (HW).aY)) ?_
  rintro _ w2 ⟨e2, y2, rfl, H2⟩
  have PS := H2.f3.right
  refine bG O (rW O O (rW O O (rW O O (dL O (dL O (fV O (gW (dX O func22 (QJ PS) ?_))))))))
  rintro _ w4 ⟨m4, rfl, H4⟩
  refine tX O (bM O (Z (mD O) (ZI O (fun h1 => ?_))))
  (try simp only [aC] at h1)
  refine bg (bG O (bg (Z (jm kU O O) (gI O O (ZI O (fun h2 => ?_))))))
  (try simp only [aC] at h2)
  refine bg (bG O (bg (Z (jm underlying41 O O) (gI O O (iy (NC O (fun h3 => ?_)))))))
  (try simp only [aC] at h3)
  refine fG (gW (dX O func34 (BA H4 (l := Jk) (by kernel_rfl) (by decide)) ?_))
  rintro u5 w5 H5
  refine dX O func11 (yx H5 (fun W HW => (HW).aY) hT (by decide) (by decide)) ?_
  rintro _ w6 ⟨rfl, H6⟩
  refine bG O (rW O O (rW O O (rW O O (dL O (dL O (fV O (bM O (Z (cZ O O) (iZ O (fun h4 => ?_) (fun h => by exfalso; (try simp only [aC] at h); exact h (by rw [X9])))))))))))
  (try simp only [aC] at h4)
  refine bg (bG O (iM O O (iZ O (fun h5 => ?_) (fun h => by exfalso; (try simp only [aC] at h); rw [X9] at h; exact absurd h (by decide)))))
  (try simp only [aC] at h5)
  refine bg (bG O (bg (bG O (bg (jL (xk (k := .i32) (l := [119]) H6 aj bF nG O O O (by decide)) ?_)))))
  rintro l7 w7 H7
  refine bg (dX O func24 (Tv (s := yU Jk) (M := VM.new) (keys := [119]) H7.f4.f4 hT abF (fun W HW => (HW).aY) (by decide) Zp) ?_)
  rintro _ w8 ⟨rfl, H8⟩
  have HX := H8
  rw [abG] at HX
  refine bg (Z (cZ O O) (iM O O (iZ O (fun h6 => ?_) (fun h => by exfalso; (try simp only [aC] at h); exact h Ya))))
  (try simp only [aC] at h6)
  refine bg (bG O (bg (bG O (bg (jL (xk (k := .i32) (l := [98]) HX aj bF nG O O O (by decide)) ?_)))))
  rintro l9 w9 H9
  refine bg (dX O func24 (Tv (s := (yU Jk).UY VM.new [119]) (M := VM.new) (keys := [98]) H9.f3.f3 hT Zu (fun W HW => (HW).aY) (by decide) Zq) ?_)
  rintro _ w10 ⟨rfl, rD⟩
  refine bg (Z (cZ O O) (iM O O (iZ O (fun h7 => ?_) (fun h => by exfalso; (try simp only [aC] at h); exact h abH))))
  (try simp only [aC] at h7)
  refine bg (bG O (bg (dX O func28 (Bh rD.f2) ?_)))
  rintro _ ED ⟨u11, rfl, rM⟩
  refine bg (Z (FQ 1 jR O O (bT aP O) O O) (bg (Z (cZ O O) (iM O O (iZ O (fun h8 => ?_) (fun h => by exfalso; (try simp only [aC] at h); exact h abI))))))
  (try simp only [aC] at h8)
  refine bg (jL (xk (k := .i32) (l := [102]) rM aj bF nG O O O (by decide)) ?_)
  rintro l12 w12 vX
  refine bg (dX O func16 (Dn vX (fun W HW => (HW).aY)) ?_)
  rintro _ PO ⟨rfl, xM⟩
  refine bg ?_
  refine Z (J7 (cZ O O) (by exact beq_iff_eq.2 Zr)) ?_
  refine iM O O (dU O (dF results13 O ?_))
  exact ⟨O, xM.right.right.right.right.right.right.right.right⟩
end
end Go.Proofs.YtpdeedplgmbopaaGreatDoor
end
