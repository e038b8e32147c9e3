import Derived.Test.YtnhhmieghbfalaaGreatDoorZ4
import Derived.Test.YtnhhmieghbfalaaGreatDoorZ20
import Derived.Test.YtnhhmieghbfalaaGreatDoorZ18
import Derived.Test.YtnhhmieghbfalaaGreatDoorZ27
import Derived.Test.YtnhhmieghbfalaaGreatDoorZ26
import Derived.Test.YtnhhmieghbfalaaGreatDoorCards
import Derived.Test.YtnhhmieghbfalaaGreatDoorZ6
import Derived.SevenTiedAt
set_option linter.unusedSimpArgs false
set_option linter.unusedVariables false
/- A part outside a command changes nothing; a command does not begin within another; the next line begins in both editors alike: EditorOutside, as the card states it, for whatever the program's variables hold.
Texts of mine, joined, their names in short: REdO LawEOutside1 HasEOutside1. -/
section
namespace Go.Proofs.YtnhhmieghbfalaaGreatDoor
open Go.RowKit
open _root_.Go.Proofs.Tryz
section
variable {w0 w : World} {F : HP} {y h : Nat} {s : aX} {hl : List rM} {base most : Int} {l : List Int} {v : Value}
theorem TU {x0 x1 x2 x3 x4 x5 x6 x7 x8 x9 x10 x11 x12 yJ x14 x15 x16 x17 x18 x19 x20 x21 yO x23 x24 x25 yS x27 x28 x29 x30 x31 yZ x34 Gn Gp Gq x38 x39 x40 x41 : Value} {b : Bool} (hb : b = false) (H : V w0 w (gU y (.cells (x0 :: x1 :: x2 :: x3 :: x4 :: x5 :: x6 :: x7 :: x8 :: x9 :: x10 :: x11 :: x12 :: yJ :: x14 :: x15 :: x16 :: x17 :: x18 :: x19 :: x20 :: x21 :: yO :: x23 :: x24 :: x25 :: yS :: x27 :: x28 :: x29 :: x30 :: x31 :: .bool b :: yZ :: x34 :: Gn :: Gp :: Gq :: x38 :: x39 :: x40 :: x41 :: []).toArray 58 (0, 0)) • F)) (hr : jZ w0 F .i32 v l) (hlong : 1024 < l.length) : iK prog 14 #[.pointer (some ⟨y, 0, none⟩), .pointer (some ⟨h, 0, none⟩), v] w fun v' w' => v' = .int .i64 3 ∧
    V w0 w' (gU y (.cells (x0 :: x1 :: x2 :: x3 :: x4 :: x5 :: x6 :: x7 :: x8 :: x9 :: x10 :: x11 :: x12 :: yJ :: x14 :: x15 :: x16 :: x17 :: x18 :: x19 :: x20 :: x21 :: yO :: x23 :: x24 :: x25 :: yS :: x27 :: x28 :: x29 :: x30 :: x31 :: .bool b :: yZ :: x34 :: Gn :: Gp :: Gq :: x38 :: x39 :: x40 :: x41 :: []).toArray 58 (0, 0)) • F) := by
  refine FY func14 ntmps14 ?_
  refine kG O (aI (bT O (aT (oQ xu O O) (iR (Kq O (fun h1 => ?_))))))
  (try simp only [aG] at h1)
  refine gX (aI (bT O (dM O (bg 32 aA O aN O (dQ bn O (H).get.2 O (jo O (fun h => by exfalso; (try simp only [aG] at h); simp [hb] at h) (fun h2 => ?_)))))))
  (try simp only [aG] at h2)
  refine gX (bT O (fH O func65 (WE H (fun W HW => hr W HW.right) hlong) ?_))
  rintro _ _ ⟨rfl, rfl⟩
  refine cO O (xY O O (xY O O (lg O (vI O (bT O (aT (fF O O) (iR (wcE O (fun h3 => ?_)))))))))
  (try simp only [aG] at h3)
  refine bT O (iJ O (aC (dO results14 O ?_)))
  exact ⟨O, H⟩
theorem UK {h pb pk : Nat} {wv nv pv gv : Value} {A : List LE} {nw : Value} {es : List gJ} {yf yt : Int} {ch : Bool} {u0 u1 u2 u3 u4 u5 u6 u7 u8 u9 ua ub : Value} (ok : iY s es A yf yt) (hi : s.inn = false) (H : V w0 w (gU y (.cells (.pointer (some ⟨h, 0, none⟩) :: .pointer (some ⟨pb, 0, none⟩) :: .pointer (some ⟨pk, 0, none⟩) :: wv :: nv :: .int .i64 s.c.place :: .string (fP s.hl s.c.tx s.c.place) :: pv :: gv :: .int .i64 s.c.mode :: .bool s.c.over :: .int .i64 s.c.res :: .bool s.c.run :: u0 :: u1 :: u2 :: u3 :: u4 :: u5 :: u6 :: u7 :: u8 :: u9 :: ua :: ub :: .bool s.given :: .bool s.minus :: .int .i64 s.arg :: .int .i64 s.yx :: .int .i64 s.Ox :: .int .i64 s.Qi :: .int .i64 s.nR :: .bool s.inn :: .int .i64 s.cls :: .int .i64 yf :: .int .i64 yt :: .bool s.argues :: .bool s.lS :: .bool s.jc :: nw :: .bool s.whole :: .bool ch :: []).toArray 58 (0, 0)) • kC pb s.c.L s.c.pt s.c.mark • lI pk s.c.E s.c.at_ • yK 1 wv (s.hl.length + 1) (strs (pz s.hl)) • Row 9 1 nv (s.hl.length + 1) (strs (oO s.hl s.c.tx)) • uQ .i64 pv (A.map (·.1)) • yK 1 gv A.length (A.map (·.2.1)) • xU A • jS h s.hl s.base s.most • Row 143 3 nw s.put.length (es.flatMap gJ.enc) • oK es • FB s.inn s.hl s.was [u0, u1, u2, u3, u4, u5, u6, u7, u8, u9, ua, ub] • F)) (hr : jZ w0 F .i32 v l) : iK prog 14 #[.pointer (some ⟨y, 0, none⟩), .pointer (some ⟨h, 0, none⟩), v] w fun v' w' =>
    v' = .int .i64 (s.CX l) ∧ V w0 w' (dY y (s.II s.hl s.base s.most l) • F) := by
  have hin : ¬ s.inn = true := by simp [hi]
  by_cases hlen : 1024 < l.length
  · have hE : s.CX l = 3 := by unfold aX.CX; rw [if_neg hin, if_pos hlen]
    unfold aX.II
    rw [if_neg (by rw [hE]; decide), hE]
    refine (TU hi (hr := fun W HW => hr W HW.right.right.right.right.right.right.right.right.right.right.right) (h := h) H hlen).mono fun v' w' h9 => ⟨h9.1, V.fE ok h9.2⟩
  · have hE : s.CX l = 0 := by unfold aX.CX; rw [if_neg hin, if_neg hlen]
    unfold aX.II
    rw [if_pos hE, hE]
    generalize hhl : s.hl = hl
    generalize hbs : s.base = base
    generalize hms : s.most = most
    rw [hhl, hbs, hms] at H
    have HI := H.f9
    refine (NM hi (hr := fun W HW => hr W HW.right.right.right.right.right.right.right.right.right.right) (l := l) HI.f2 (by omega)).mono fun v' w' h9 => ?_
    obtain ⟨e9, ph, pb', wv', nv', H9⟩ := h9
    refine ⟨e9, ?_⟩
    have rU := H9.f7.right.f8.right.f8.right.f8.right.f8.right.f8.right
    have HR3 := ((rU.Yu.aax (sz := 1) none).Yv (k := .i64) none)
    have HX := HR3.f9.f13.f13.f13.f12.f8.f8.f8.f12.f12.f13.f13.f13
    rw [← Zg hl, show FB s.inn hl s.was [u0, u1, u2, u3, u4, u5, u6, u7, u8, u9, ua, ub] = FB s.inn hl s.was [u0, u1, u2, u3, u4, u5, u6, u7, u8, u9, ua, ub] from by rfl] at HX
    refine (V.fE (y := y) (s := s.start hl base most l) (h := ph) (pb := pb') (pk := pk) (wv := wv') (nv := nv') (pv := .slice none 0 0) (gv := .slice none 0 0) (nw := nw) (es := es) (ch := ch) (u0 := u0) (u1 := u1) (u2 := u2) (u3 := u3) (u4 := u4) (u5 := u5) (u6 := u6) (u7 := u7) (u8 := u8) (u9 := u9) (ua := ua) (ub := ub) (F := jS h hl base most • F) (aeS ok hi hl base most l) ?_).f2.right
    rw [show (s.start hl base most l).yx = 0 from if_neg (by show ¬ s.inn = true; simp [hi]), show (s.start hl base most l).Ox = 0 from if_neg (by show ¬ s.inn = true; simp [hi]), show (s.start hl base most l).Qi = 0 from if_neg (by show ¬ s.inn = true; simp [hi])]
    exact HX
end
section
variable {w0 w : World} {F : HP} {l : List rM} {v : Value}
theorem adj (H : V w0 w F) (hv : Ht w0 F 2 v l.length (l.flatMap qI)) (hb : l.length ≤ 5864062014805) (hm : BL l = 0) : iK prog 4 #[v] w fun v' w' => ∃ e y, v' = .tuple #[.pointer (some ⟨e, 0, none⟩), .pointer (some ⟨y, 0, none⟩), .bool true] ∧ V w0 w' (gQ e (aX.new (adQ l) (adR l) 4096) • dY y (aX.new (adQ l) (adR l) 4096) • F) := by
 refine jl func4 ntmps4 ?_
 refine kQ (lg O (lg O (iU O (bT O (fH O func15 (Rq H (by decide) (fun W HW => hv _ (HW)) hb hm) ?_)))))
 rintro _ w1 ⟨p1, rfl, H1⟩
 refine cO O (xY O O (xY O O (lg O (iU O (bT O (fH O func16 (P5 H1 (by decide) (fun W HW => hv _ (HW.right)) hb hm) ?_))))))
 rintro _ w2 ⟨p2, rfl, H2⟩
 refine cO O (xY O O (xY O O (lg O (vI O (bT O (cO O (aT (fF O O) (iR (Kq O (fun h1 => ?_))))))))))
 (try simp only [aG] at h1)
 refine gX (aI (bT O (aT (fF O O) (iR (Kq O (fun h2 => ?_))))))
 (try simp only [aG] at h2)
 refine gX (bT O (fH O func17 (S9 H2.f2) ?_))
 rintro _ w3 ⟨e3, rfl, H3⟩
 refine cO O (xY O O (xY O O (lg O (iU O (bT O (fH O func18 (Zh H3.f3) ?_))))))
 rintro _ w4 ⟨y4, rfl, H4⟩
 refine cO O (xY O O (xY O O (lg O (iU O (bT O (ku O O (cO O (aT (fA O O) (Z8 O (fun h3 => ?_))))))))))
 (try simp only [aG] at h3)
 refine bJ (cO O (bJ (aT (fA O O) (mQ O O (Z8 O (fun h4 => ?_))))))
 (try simp only [aG] at h4)
 refine bJ (cO O (bJ (aT (QN yP O O) (mQ O O (lg O (lg O (iJ O ?_)))))))
 refine abn (.inl O) results4 O O O ?_
 exact ⟨_, _, O, H4.f2.right.f3.right.f2⟩
end
section
def CZ.abl (W : World) (c : CZ) : Prop := Rd W 5 c.v c.parts.length (c.parts.flatMap yB.enc) ∧ (∀ k, k < c.parts.length → (c.parts.getD k default).Reads W) ∧ c.parts.length ≤ 4398046511104
theorem ZH {w : World} {v u tv0 : Value} {l : List rM} {q1 q2 q3 : Int} {q4 : Bool} (g1 : Rd w 2 v l.length (l.flatMap qI)) (hb1 : l.length ≤ 5864062014805) (hm : BL l ≠ 0) :
    iK prog 3 #[v, u, .agg #[.int .i64 q1, .int .i64 q2, .int .i64 q3, .bool q4, tv0]] w fun v w' => v = .bool true ∧ Below w.heap.size w w' := by
  obtain ⟨F, H⟩ : ∃ F, V w w F := ⟨_, V.start w⟩
  have hv : Ht w F 2 v l.length (l.flatMap qI) := Ht.EK g1 F
  refine FY func3 ntmps3 ?_
  refine kQ (jT (kZ (l := [_, _, _, _, _]) H O O) ?_)
  rintro _ w1 ⟨b1, rfl, H1⟩
  refine iU O (bT O (fH O func4 (aeK H1 (fun W HW => hv _ (HW.right)) hb1 hm) ?_))
  rintro _ w2 ⟨rfl, H2⟩
  refine cO O (xY O O (xY O O (xY O O (lg O (lg O (vI O (bT O (aT (jG O) (QW O (fun h1 => ?_))))))))))
  (try simp only [aG] at h1)
  refine bJ (fH O func5 (ZE H2) ?_)
  rintro _ w3 ⟨rfl, H3⟩
  refine bJ (aT (jG O) (kP O O (iR (Kq O (fun h2 => ?_)))))
  (try simp only [aG] at h2)
  refine gX (aI (bT O (aT (oQ yP O O) (iR (wcE O (fun h3 => ?_))))))
  (try simp only [aG] at h3)
  refine jE O (aC (dO results3 O ?_))
  exact ⟨O, H3.base⟩
set_option maxHeartbeats 1000000 in
theorem TV {w : World} {v u tv0 : Value} {l : List rM} {cs : List CZ} {l0 : List Int} {q1 q2 q3 : Int} {q4 : Bool} (hU : MO w) (g1 : Rd w 2 v l.length (l.flatMap qI)) (hb1 : l.length ≤ 5864062014805) (hm : BL l = 0)
    (g2 : Rd w 2 u cs.length (cs.flatMap CZ.enc)) (g3 : ∀ k, k < cs.length → (cs.getD k default).abl w) (t3 : ∀ c ∈ cs, Gm c.parts) (b2 : cs.length ≤ 4398046511104)
    (g4 : mP w .i32 tv0 l0) (b4 : l0.length ≤ 35184372087808) :
    iK prog 3 #[v, u, .agg #[.int .i64 q1, .int .i64 q2, .int .i64 q3, .bool q4, tv0]] w fun v w' => v = .bool true ∧ Below w.heap.size w w' := by
  obtain ⟨F, H⟩ : ∃ F, V w w F := ⟨_, V.start w⟩
  have hv : Ht w F 2 v l.length (l.flatMap qI) := Ht.EK g1 F
  have hu : Ht w F 2 u cs.length (cs.flatMap CZ.enc) := Ht.EK g2 F
  have ht0 : jZ w F .i32 tv0 l0 := jZ.EK g4 F
  obtain ⟨S0, hS0⟩ : ∃ S0, S0 = aX.new (adQ l) (adR l) 4096 := ⟨_, rfl⟩
  have hr0 : RS S0 := hS0 ▸ aj7 _ _ _
  refine FY func3 ntmps3 ?_
  refine kQ (jT (kZ (l := [_, _, _, _, _]) H O O) ?_)
  rintro _ w1 ⟨b1, rfl, H1⟩
  refine iU O (bT O (fH O func4 (adj H1 (fun W HW => hv _ (HW.right)) hb1 hm) ?_))
  rintro _ w2 ⟨xe, ye, rfl, H2⟩
  refine cO O (xY O O (xY O O (xY O O (lg O (lg O (vI O (bT O (aT (jG O) (QW O (fun h1 => ?_))))))))))
  (try simp only [aG] at h1)
  refine bJ (fH O func5 (ZE H2) ?_)
  rintro _ w3 ⟨rfl, H3⟩
  refine bJ (aT (jG O) (kP O O (iR (Kq O (fun h2 => ?_)))))
  (try simp only [aG] at h2)
  refine gX (aI (bT O (aT (oQ yP O O) (iR (Kq O (fun h3 => ?_))))))
  (try simp only [aG] at h3)
  refine gX (aI (bT O (aT (fV (hu _ (H3.right.right.right)) underlying23 O) (cO O (iR (bK ?_))))))
  refine jh [(5, _), (7, _), (8, _), (28, _), (29, _)] (fun (k : Nat) => [(30, .int .i64 (k : Int))]) (fun (k : Nat) W => k ≤ cs.length ∧ V w W (gQ xe ((cs.take k).foldl aX.Qp S0) • dY ye ((cs.take k).foldl aX.Qp S0) • gU b1 (.cells #[.int .i64 q1, .int .i64 q2, .int .i64 q3, .bool q4, tv0] 26 (0, 0)) • F)) (fun (k : Nat) => cs.length - k) (0) sb5 rJ ⟨by omega, by rw [hS0]; exact H3.f3.f3.f3⟩ ?_
  rintro k w4 ⟨hk, HL⟩
  dsimp only [List.cons_append, List.nil_append]
  refine kQ (aT (fJ O O) (uV (dw O (fun h4 => ?_) (fun h4 => ?_))))
  · (try simp only [aG] at h4)
    refine gX (aI (bK (aI ?_)))
    have hkl : k < cs.length := by omega
    obtain ⟨r1, r2, r3⟩ := g3 k hkl
    have f1 := Ht.EK r1 F
    have tk : Gm (cs.getD k default).parts := t3 _ (by rw [List.getD_eq_getElem?_getD, List.getElem?_eq_getElem hkl]; exact List.getElem_mem _)
    have hrk := (XD hr0 (by rw [hS0]; rfl) (cs.take k) (fun c hc => t3 c (List.mem_of_mem_take hc))).1
    have hik := (XD hr0 (by rw [hS0]; rfl) (cs.take k) (fun c hc => t3 c (List.mem_of_mem_take hc))).2
    refine aF ?_
    obtain ⟨bu, ou, cu, eu⟩ := Rd.qX (hu _ (HL.right.right.right)) (by omega)
    cases eu
    refine aT (dP underlying23 sizeOf35 O O (by omega)) (aT (mF (ys := [_, _]) (hu _ (HL.right.right.right)) (by omega) underlying35 O sizeOf35 O (mY CZ.Ah (by omega) default) O) (jT (iI (l := [_, _]) HL zeroValue35 O) ?_))
    rintro _ w5 ⟨b5, rfl, H5⟩
    refine aH (dR 0 (l' := [_, _]) (us := [_, _]) H5 sizeOf35 O O O (bD (by first | rfl | exact Rd.one (f1 _ (H5.right.right.right.right))) (aP bW)) O O) ?_
    rintro _ w6 H6
    obtain ⟨c, hc⟩ : ∃ c, cs.getD k default = c := ⟨_, rfl⟩
    have HX := H6
    rw [hc] at r1 r2 r3 f1 tk HX
    try rw [hc]
    obtain ⟨pv, ps, er⟩ := c
    dsimp only at r1 r2 r3 f1 tk
    refine qG O (fH O func6 (Eh HX.f2) ?_)
    rintro _ w7 ⟨rfl, H7⟩
    refine qG O (fH O func7 (Lj H7.f3) ?_)
    rintro _ w8 ⟨rfl, H8⟩
    refine uV (kQ (bg 0 underlying35 O sizeOf32 O (dQ underlying32 O (H8.f3).get.2 O (aT (fV (f1 _ (H8.right.right.right.right)) underlying32 O) (cO O (iR (bK ?_)))))))
    refine jh [(5, _), (7, _), (8, _), (11, _), (28, _), (29, _), (30, _), (39, _), (40, _)] (fun (j : Nat) => [(41, .int .i64 (j : Int))]) (fun (j : Nat) W => j ≤ ps.length ∧ V w W (gQ xe ((ps.take j).foldl aX.Jj ((cs.take k).foldl aX.Qp S0).dA) • dY ye ((ps.take j).foldl aX.Jj ((cs.take k).foldl aX.Qp S0).dA) • gU b1 (.cells #[.int .i64 q1, .int .i64 q2, .int .i64 q3, .bool q4, tv0] 26 (0, 0)) • gU b5 (.cells #[pv, .int .i64 er] 35 (0, 0)) • F)) (fun (j : Nat) => ps.length - j) (0) (Sub.cons O (Sub.cons O (Sub.cons O sb6))) rJ ⟨by omega, H8.f3.f4.f3.f4⟩ ?_
    rintro j w9 ⟨hj, HJ⟩
    dsimp only [List.cons_append, List.nil_append]
    refine kQ (aT (fJ O O) (uV (dw O (fun h5 => ?_) (fun h5 => ?_))))
    · (try simp only [aG] at h5)
      refine gX (aI (bK (aI ?_)))
      have hjl : j < ps.length := by omega
      obtain ⟨y1, y2⟩ := r2 j hjl
      have f2 := jZ.EK y1 F
      have hRj : jd ((ps.take j).foldl aX.Jj ((cs.take k).foldl aX.Qp S0).dA).c.L := (XC (XB hrk) (ps.take j) (fun p hp => tk p (List.mem_of_mem_take hp))).1.c.L
      refine aF ?_
      obtain ⟨bpv, opv, cpv, epv⟩ := Rd.qX (f1 _ (HJ.right.right.right.right)) (by omega)
      cases epv
      refine aT (dP underlying32 sizeOf26 O O (by omega)) (aT (mF (ys := [_, _, _, _, _]) (f1 _ (HJ.right.right.right.right)) (by omega) dh O sizeOf26 O (mY yB.Ah (by omega) default) O) (jT (iI (l := [_, _, _, _, _]) HJ zeroValue26 O) ?_))
      rintro _ w10 ⟨b10, rfl, rU⟩
      refine aH (dR 0 (l' := [_, _, _, _, _]) (us := [_, _, _, _, _]) rU sizeOf26 O O O (aP (aP (aP (aP (bD (by first | rfl | exact Rd.one (f2 _ (rU.right.right.right.right.right))) bW))))) O O) ?_
      rintro _ Ii rE
      refine zk7 (bg 0 dh O ah O (dQ ay O (rE).get.2 O (aT (fJ O O) (jo O (fun h6 => ?_) (fun h6 => ?_)))))
      · (try simp only [aG] at h6)
        have afG : (ps.getD j default).kd < 20 := h6
        refine aF (ku O O (aT (dU dh O sizeOf26 O O (rE).get.2) (fH O func8 (VI rE.f3.f3 (p := (ps.getD j default).m) (fun W HW => f2 _ (HW.right.right.right)) y2 hU hRj) ?_)))
        rintro _ w12 ⟨rfl, uP⟩
        refine dJ (aS (aZ (aF (aT (gY O O (by omega)) (cO O (dJ ?_))))))
        refine fG (j + 1) ?_ ?_ ?_ ?_
        · exact rJ
        · exact (Sub.cons O (Sub.cons O (Sub.cons O sb6)))
        · (try dsimp only)
          first | done | exact ⟨by omega, by
                  rw [Ai _ _ _ default hjl]
                  first
                    | (rw [show aX.Jj _ (ps.getD j default) = aX.wV _ (ps.getD j default).m from if_pos (show (ps.getD j default).kd < 20 from afG)]; exact uP.f3.right.f4.f4.f4.f4)
                    | (rw [show aX.Jj _ (ps.getD j default) = _ from if_neg (show ¬ (ps.getD j default).kd < 20 from afG)]; exact uP.f3.right.f4.f4.f4.f4)⟩
        · (try dsimp only); omega
      · (try simp only [aG] at h6)
        have afG : ¬ (ps.getD j default).kd < 20 := by have h9 := h6; omega
        refine eG (aS (aZ (aF (aT (gY O O (by omega)) (cO O (dJ ?_))))))
        refine fG (j + 1) ?_ ?_ ?_ ?_
        · exact rJ
        · exact (Sub.cons O (Sub.cons O (Sub.cons O sb6)))
        · (try dsimp only)
          first | done | exact ⟨by omega, by
                  rw [Ai _ _ _ default hjl]
                  first
                    | (rw [show aX.Jj _ (ps.getD j default) = aX.wV _ (ps.getD j default).m from if_pos (show (ps.getD j default).kd < 20 from afG)]; exact rE.right.f4.f4.f4.f4)
                    | (rw [show aX.Jj _ (ps.getD j default) = _ from if_neg (show ¬ (ps.getD j default).kd < 20 from afG)]; exact rE.right.f4.f4.f4.f4)⟩
        · (try dsimp only); omega
    · (try simp only [aG] at h5)
      refine iZ (bC (bC (dK (aZ (aI ?_)))))
      obtain rfl : j = ps.length := by omega
      have HY := HJ
      rw [List.take_length] at HY
      have hiE := VJ hrk ps tk
      refine aF (cO O (bg 1 underlying35 O sizeOf33 O (dQ underlying33 O (HY.f4).get.2 O (fH O func9 (E8 HY) ?_))))
      rintro _ P7 ⟨rfl, AZ⟩
      refine qG O (bg 1 underlying35 O sizeOf33 O (dQ underlying33 O (AZ.f4).get.2 O (fH O func10 (FU AZ.f2) ?_)))
      rintro _ O9 ⟨rfl, BJ⟩
      refine uV ?_
      obtain ⟨sE, hsE⟩ : ∃ s, s = ((cs.take k).foldl aX.Qp S0).Qp ⟨pv, ps, er⟩ := ⟨_, rfl⟩
      have hrE : RS sE := hsE ▸ afD hrk ⟨pv, ps, er⟩ tk
      have hiO : sE.inn = false := hsE ▸ ZF hrk ⟨pv, ps, er⟩ tk
      have hpO : sE.inn = false → sE.put = [] := fun _ => hsE ▸ ab7 hiE er
      have HE := BJ
      rw [show aX.nZ _ er = sE from hsE.symm] at HE
      refine aF (bg 0 dh O ah O (dQ ay O (HE.f3).get.2 O (aT (fJ O O) (nS O (fun h7 => ?_) (fun h7 => ?_)))))
      · (try simp only [aG] at h7)
        refine bJ (cO O (bJ (cO O (bJ (aT (dU dh O sizeOf26 O O (HE.f3).get.2) (bJ (fH O func8 (VI HE.f2 (p := ⟨q1, q2, q3, q4, l0⟩) (fun W HW => ht0 _ (HW.right.right)) b4 hU hrE.c.L) ?_)))))))
        rintro _ Ry ⟨rfl, CJ⟩
        have HP := CJ
        rw [adf hiO] at HP
        refine bJ (aT (jG O) (mQ O O (QW O (fun h8 => ?_))))
        (try simp only [aG] at h8)
        refine bJ (cO O (bJ (fH O func9 (E8 HP) ?_)))
        rintro _ w16 ⟨rfl, yG⟩
        have HP2 := yG
        rw [NZ hiO] at HP2
        refine bJ (aT (fF O O) (kP O O (nS O (fun h => by exfalso; (try simp only [aG] at h); simp [N7 hiO] at h) (fun h9 => ?_))))
        (try simp only [aG] at h9)
        refine bJ (cO O (bJ (fH O func10 (FU HP2.f2) ?_)))
        rintro _ ZI ⟨rfl, DL⟩
        have HP3 := DL
        rw [NZ hiO] at HP3
        refine bJ (aT (fF O O) (kP O O (nS O (fun h => by exfalso; (try simp only [aG] at h); simp [N7 hiO] at h) (fun h10 => ?_))))
        (try simp only [aG] at h10)
        refine bJ (cO O (bJ (cO O (bJ (fH O func11 (OW HP3.f2 (by assumption)) ?_)))))
        rintro _ U5 ⟨rfl, DN⟩
        refine bJ (aT (jG O) (kP O O (iR (Kq O (fun h11 => ?_)))))
        (try simp only [aG] at h11)
        refine eG (aS (aZ (aF (aT (gY O O (by omega)) (cO O (dJ ?_))))))
        refine fG (k + 1) ?_ ?_ ?_ ?_
        · exact rJ
        · exact sb5
        · (try dsimp only)
          first | done | exact ⟨by omega, by rw [Ai _ _ _ default hkl, hc, ← hsE]; exact DN.f4.right.f3.f3.f3⟩
        · (try dsimp only); omega
      · (try simp only [aG] at h7)
        refine dB (dB (dB (dB (dB (kP O O (cO O (bJ (cO O (bJ (fH O func9 (E8 HE.f2) ?_))))))))))
        rintro _ X9 ⟨rfl, Df⟩
        have HP2 := Df
        rw [NZ hiO] at HP2
        refine bJ (aT (fF O O) (kP O O (nS O (fun h => by exfalso; (try simp only [aG] at h); simp [N7 hiO] at h) (fun h12 => ?_))))
        (try simp only [aG] at h12)
        refine bJ (cO O (bJ (fH O func10 (FU HP2.f2) ?_)))
        rintro _ ZJ ⟨rfl, DR⟩
        have HP3 := DR
        rw [NZ hiO] at HP3
        refine bJ (aT (fF O O) (kP O O (nS O (fun h => by exfalso; (try simp only [aG] at h); simp [N7 hiO] at h) (fun h13 => ?_))))
        (try simp only [aG] at h13)
        refine bJ (cO O (bJ (cO O (bJ (fH O func11 (OW HP3.f2 (by assumption)) ?_)))))
        rintro _ Ya ⟨rfl, xZ⟩
        refine bJ (aT (jG O) (kP O O (iR (Kq O (fun h14 => ?_)))))
        (try simp only [aG] at h14)
        refine eG (aS (aZ (aF (aT (gY O O (by omega)) (cO O (dJ ?_))))))
        refine fG (k + 1) ?_ ?_ ?_ ?_
        · exact rJ
        · exact sb5
        · (try dsimp only)
          first | done | exact ⟨by omega, by rw [Ai _ _ _ default hkl, hc, ← hsE]; exact xZ.f4.right.f3.f3.f3⟩
        · (try dsimp only); omega
  · (try simp only [aG] at h4)
    refine iZ (bC (bC (dK (aZ (aI (aI ?_))))))
    obtain rfl : k = cs.length := by omega
    have HY := HL
    rw [List.take_length] at HY
    obtain ⟨hrF, hiF⟩ := XD hr0 (by rw [hS0]; rfl) cs t3
    obtain ⟨sF, hsF⟩ : ∃ s, s = cs.foldl aX.Qp S0 := ⟨_, rfl⟩
    rw [← hsF] at HY hrF hiF
    have hbF := IU sF
    have hoF := PS hbF 0
    have hpF := ab7 hbF 0
    refine aF (cO O (fH O func6 (Eh HY) ?_))
    rintro _ w22 ⟨rfl, FI⟩
    refine aT (fF O O) (nS O (fun h => by exfalso; (try simp only [aG] at h); simp [abj hiF] at h) (fun h15 => ?_))
    (try simp only [aG] at h15)
    refine bJ (cO O (bJ (fH O func6 (Eh FI) ?_)))
    rintro _ Yb ⟨rfl, BM⟩
    have HP := BM
    rw [adg hbF] at HP
    refine bJ (aT (fF O O) (kP O O (nS O (fun h => by exfalso; (try simp only [aG] at h); simp [adh hbF] at h) (fun h16 => ?_))))
    (try simp only [aG] at h16)
    refine bJ (cO O (bJ (fH O func9 (E8 HP) ?_)))
    rintro _ w24 ⟨rfl, Hw⟩
    refine bJ (aT (fF O O) (kP O O (jo O (fun h => by exfalso; (try simp only [aG] at h); simp [agJ hbF] at h) (fun h17 => ?_))))
    (try simp only [aG] at h17)
    refine gX (bT O (fH O func7 (Lj Hw.f2) ?_))
    rintro _ w25 ⟨rfl, Jo⟩
    refine qG O (fH O func10 (FU Jo) ?_)
    rintro _ w26 ⟨rfl, FK⟩
    refine uV ?_
    obtain ⟨sG, hsG⟩ : ∃ s, s = sF.dA.nZ 0 := ⟨_, rfl⟩
    have HG := FK
    rw [← hsG] at HG hoF hpF
    obtain ⟨anl, al8, al9, ama, amb, amc, amd, anm, ame, amf, amg, amh, ami, amj, amk, aml, amm, amn, amo, amq, amr, ams, amt, amu, amv, akh, akj, aki⟩ := (HG).xq
    have hpi : (sG.II sG.hl sG.base sG.most l0).inn = false → (sG.II sG.hl sG.base sG.most l0).put = [] := fun _ => abk hpF
    have afH := aki.drew
    have Aj := V.kp (afH.f13.right.f13.f13.f13.f13.f13.f13.f13.f13.f13.f13.f13.f13.f13)
    refine tH [4, 10, 12] Aj O (fM 0 O Aj O (fM 1 O Aj O (eP 3 O Aj 4 dh O bI O (iD 4 O Aj (fun W hW => jk aB O ((Kp.h hW).f13).get.2 O) (fM 6 O Aj O (fM 7 O Aj O (jF 8 O Aj O (eP 9 O Aj 0 aA O sizeOf44 O (iD 10 O Aj (fun W hW => jk xu O ((Kp.h hW)).get.2 O) (eP 11 O Aj 4 dh O bI O (iD 12 O Aj (fun W hW => jk aB O ((Kp.h hW).f13).get.2 O) (lC 2 O (qW O func13 (YV afH.f13)) ?_))))))))))))
    rintro _ w28 ⟨q28, rfl, Rz⟩
    have Jh := V.kp (Rz.f2.right.f14.f14.f14.f14.f14.f14.f14.f14.f14.f14.f14.f14.f14.f14)
    refine dZ Jh (fun W hW => (Kp.h hW).right.f13.f13.f13.f13.f13.f13.f13.f13.f13.f13.f13.f13.f13) ?_
    refine lC 5 O (qW O func12 (WZ Rz.f2 (fun W HW => ht0 _ (HW.right.right.right.right.right.right.right.right.right.right.right.right.right)))) ?_
    rintro _ w29 ⟨rfl, N9⟩
    have Tz := V.kp (N9.f15.f15.f15.f15.f15.f15.f15.f15.f15.f15.f15.f15.f15.f15.f15)
    refine dZ Tz (fun W hW => (Kp.h hW).right.f14.f14.f14.f14.f14.f14.f14.f14.f14.f14.f14.f14.f14.f14) ?_
    refine lC 13 O (qW O func14 (UK akh hoF N9.f2.right.f14.f2.f14.f14.f14.f14.f14.f14.f14.f14.f14.f14.f14.f14 (fun W HW => ht0 W HW.right.right))) ?_
    rintro _ w30 ⟨rfl, P9⟩
    have JV := V.kp (P9.f3.f3.f3)
    refine dX JV (by kernel_rfl) ?_
    refine iE 14 O JV (fun _ => fA O O) ?_
    refine rO 15 O O (by kernel_rfl) (by kernel_rfl) JV (iO O) (fun h18 => ?_) (fun h => by exfalso; (try simp only [aG] at h); simp at h)
    (try simp only [aG] at h18)
    refine bQ 16 O O O (by kernel_rfl) (by kernel_rfl) JV (fun _ => oh O) (iO O) ?_
    refine bQ 17 O O O (by kernel_rfl) (by kernel_rfl) JV (fun _ => oh O) (iO O) ?_
    refine kJ 18 O O O (by kernel_rfl) (nM (nX O func11 O O) (OW P9.f2 (by assumption))) (iO O) ?_
    rintro _ w31 ⟨rfl, TW⟩
    have SV := V.kp (TW.f3.f3.f3)
    refine dX SV (by kernel_rfl) ?_
    refine iE 19 O SV (fun _ => oP O O) (iE 20 O SV (fun _ => eH O) (oH (aZ (kN (dO results3 O ?_)))))
    exact ⟨by simp, TW.base⟩
end
end Go.Proofs.YtnhhmieghbfalaaGreatDoor
end
section
set_option maxRecDepth 100000
namespace Go.Proofs.YtnhhmieghbfalaaGreatDoor
open Go.ChangeShapes Go.WideShapes Go.ChangeAt Go.RowKit
theorem aiR {H : Type} {enc : TypeId × Value → H} {W : World} {B : Nat} {cs : List Value} (h : Hu B enc Tryz.prog W 157 cs) : ∃ x0 x1, cs = [.string x0, .int .i64 x1] ∧ x0.size ≤ B ∧ (Lit.int .i64 x1).wf = true := by
  obtain ⟨hl, hf⟩ := h.struct Tryz.underlying157
  rw [show Tryz.prog.cellsOf 157 = 2 from by kernel_rfl] at hl
  match cs, hl with
  | [c0, c1], _ =>
    have h0 : Hu B enc Tryz.prog W 9 (([c0, c1].drop 0).take (Tryz.prog.cellsOf 9)) := hf 0 _ rfl
    rw [show Tryz.prog.cellsOf 9 = 1 from by kernel_rfl] at h0
    obtain ⟨x0, e0, w0⟩ := h0.string Tryz.underlying9
    have h1 : Hu B enc Tryz.prog W 2 (([c0, c1].drop 1).take (Tryz.prog.cellsOf 2)) := hf 1 _ rfl
    rw [show Tryz.prog.cellsOf 2 = 1 from by kernel_rfl] at h1
    obtain ⟨x1, e1, w1⟩ := h1.int Tryz.underlying2
    simp only [List.drop, List.take, List.cons.injEq, and_true] at e0 e1
    exact ⟨x0, x1, by simp_all, w0, w1⟩
theorem adk {H : Type} {enc : TypeId × Value → H} {W : World} {n : Nat} {xs : List Value} (hx : xs.length = n * 2) (h : ∀ k, k < n → In enc Tryz.prog W 157 ((xs.drop (k * 2)).take 2)) :
    ∃ l : List rM, l.length = n ∧ xs = l.flatMap qI := by
  obtain ⟨l, h1, h2, -⟩ := VX (enc := qI) (p := fun _ => True) hx (fun k hk => by
    obtain ⟨x0, x1, e, -⟩ := aiR (h k hk)
    exact ⟨(x0, x1), e, trivial⟩)
  exact ⟨l, h1, h2⟩
theorem w32 {l : List Int} (h : ∀ n ∈ l, (Lit.int .i32 n).wf = true) : jd l := fun n hn => by
  have h := h n hn
  simp [Lit.wf, IntKind.min, IntKind.max, IntKind.signed, IntKind.bits] at h
  omega
theorem adl {H : Type} {enc : TypeId × Value → H} {W : World} {n : Nat} {xs : List Value} (hx : xs.length = n * 5) (h : ∀ k, k < n → In enc Tryz.prog W 26 ((xs.drop (k * 5)).take 5)) :
    ∃ l : List yB, l.length = n ∧ xs = l.flatMap yB.enc ∧ (∀ k, k < n → (l.getD k default).Reads W) ∧ Gm l := by
  obtain ⟨l, h1, h2, h3⟩ := VX (enc := yB.enc) (p := fun o => o.Reads W ∧ jd o.text) hx (fun k hk => by
    obtain ⟨x0, x1, x2, x3, v4, x4, e, -, -, -, ⟨gt, bt, wt⟩⟩ := abx (h k hk)
    unfold reachBytes at bt
    exact ⟨⟨x0, x1, x2, x3, v4, x4⟩, e, ⟨gt, by dsimp only; omega⟩, w32 wt⟩)
  refine ⟨l, h1, h2, fun k hk => (h3 k hk).1, fun p hp => ?_⟩
  obtain ⟨k, hk, rfl⟩ := List.getElem_of_mem hp
  have := (h3 k (by omega)).2
  rwa [List.getD_eq_getElem?_getD, List.getElem?_eq_getElem hk] at this
theorem afI {H : Type} {enc : TypeId × Value → H} {W : World} {n : Nat} {xs : List Value} (hx : xs.length = n * 2) (h : ∀ k, k < n → In enc Tryz.prog W 35 ((xs.drop (k * 2)).take 2)) :
    ∃ l : List CZ, l.length = n ∧ xs = l.flatMap CZ.enc ∧ (∀ k, k < n → (l.getD k default).abl W) ∧ ∀ c ∈ l, Gm c.parts := by
  obtain ⟨l, h1, h2, h3⟩ := VX (enc := CZ.enc) (p := fun o => o.abl W ∧ Gm o.parts) hx (fun k hk => by
    obtain ⟨v0, n0, x0, x1, e, ⟨g0, b0, s0⟩, -⟩ := ahx (h k hk)
    obtain ⟨ps, k1, k2, k3, k4⟩ := adl g0.len s0
    rw [show Tryz.prog.bytesOf 26 = 56 from by kernel_rfl] at b0
    unfold reachBytes at b0
    subst k1 k2
    exact ⟨⟨v0, ps, x1⟩, e, ⟨g0, k3, by dsimp only; omega⟩, k4⟩)
  refine ⟨l, h1, h2, fun k hk => (h3 k hk).1, fun p hp => ?_⟩
  obtain ⟨k, hk, rfl⟩ := List.getElem_of_mem hp
  have := (h3 k (by omega)).2
  rwa [List.getD_eq_getElem?_getD, List.getElem?_eq_getElem hk] at this
set_option maxRecDepth 100000 in
theorem J8 (os : Os) (started : os.Started) (H : Type) (enc : TypeId × Value → H) :
    ReturnsInHanded {} Tryz.checked os 3 .any (fun w args => (Rows.editorOutsideSpec.pre enc Tryz.prog Tryz.f3 Rows.editorOutsideRow.domain false w args ∧ laidMetH Tryz.prog QY w) ∧ sizedMet enc Tryz.prog Tryz.f3 (OpenSpec.ofChange Rows.editorOutsideSpec) false w args) (Rows.editorOutsideSpec.post enc Tryz.prog Tryz.f3 false true false false) := by
  refine Uc (C := Tryz.checked) (tb := 4) _ own laid started (by kernel_rfl) Tryz.func3 (congrArg Array.toList Tryz.params3) rfl Tryz.underlying4 rfl (by kernel_rfl) (fun ds hd => ?_)
    (ChangeSpec.witness_shaped (enc := enc) (C := Tryz.checked) (os := os) (X := fun w _ => laidMetH Tryz.prog QY w) false (World.laidAll Tryz.prog os QY) #[.slice none 0 0, .slice none 0 0, .agg #[.int .i64 0, .int .i64 0, .int .i64 0, .bool false, .slice none 0 0]] 8 (World.laidAll_os _ _ _) (World.shaped_of_ZipB (by kernel_rfl) (by kernel_rfl)) (by kernel_rfl) (by kernel_rfl) (by kernel_rfl) (adz os _)) ?_
  · obtain ⟨a0, a1, a2, rfl⟩ := acf hd
    rfl
  intro W args hL hin
  have hT := afX hL
  obtain ⟨v1, v2, v3, rfl, ⟨⟨_, o1⟩, i1⟩, ⟨⟨_, o2⟩, i2⟩, ⟨⟨_, o3⟩, i3⟩⟩ := hin.three
  obtain ⟨a1, n1, c1, rfl⟩ := okWide_slice Tryz.underlying22 o1
  obtain ⟨a2, n2, c2, rfl⟩ := okWide_slice Tryz.underlying23 o2
  obtain ⟨cs3, rfl, -⟩ := okWide_struct Tryz.underlying26 o3
  obtain ⟨u1, n, xs, e1, p1, p2, p3⟩ := i1.slice Tryz.underlying22 (by rw [show Tryz.prog.cellsOf 157 = 2 from by kernel_rfl]; decide)
  rw [show Tryz.prog.cellsOf 157 = 2 from by kernel_rfl] at p1 p3
  rw [show Tryz.prog.bytesOf 157 = 24 from by kernel_rfl] at p2
  obtain rfl := List.singleton_inj.1 e1
  obtain ⟨l, l1, l2⟩ := adk p1.len p3
  subst l1 l2
  obtain ⟨u, n', xs', e2, h1, h2, h3⟩ := i2.slice Tryz.underlying23 (by rw [show Tryz.prog.cellsOf 35 = 2 from by kernel_rfl]; decide)
  rw [show Tryz.prog.cellsOf 35 = 2 from by kernel_rfl] at h1 h3
  rw [show Tryz.prog.bytesOf 35 = 32 from by kernel_rfl] at h2
  obtain rfl := List.singleton_inj.1 e2
  obtain ⟨cs, k1, k2, k3, k4⟩ := afI h1.len h3
  subst k1 k2
  obtain ⟨x0, x1, x2, x3, v4, x4, e3, -, -, -, ⟨gt, bt, wt⟩⟩ := abx i3
  obtain rfl : cs3 = #[.int .i64 x0, .int .i64 x1, .int .i64 x2, .bool x3, v4] := Array.ext' e3
  unfold reachBytes at p2 h2 bt
  by_cases hm : BL l = 0
  · exact TV (adK hL) p1 (by omega) hm h1 k3 k4 (by omega) gt (by omega)
  · exact ZH p1 (by omega) hm
theorem J9 : Rows.EditorOutsideSaid :=
  OpenClaim.holds_of_wide 3 Tryz.f3 rfl rfl rfl rfl rfl rfl rfl ⟨rfl, rfl, rfl, rfl, rfl⟩ rfl rfl rfl rfl rfl (by kernel_rfl) Tryz.func3 (by kernel_rfl)
    (of_decide_eq_true (by kernel_rfl)) (by unfold Func.isWrapper; first | (rw [if_pos (by decide +kernel)]; kernel_rfl) | (rw [if_neg (by decide +kernel)]; exact ⟨rfl, rfl⟩))
    (fun os started H enc _ => J8 os started H enc)
theorem editorOutside_card : Rows.EditorOutsideCardSaid :=
  Claim7.holds_tied_plain_at .later [] [.data, .pinned] true (true, "2106355149d3e0371f0252ddc12ebbaba3f3885a09c3834a594b34c50b2d931a") false
    J9 (fun _ h => by cases h) (by kernel_rfl) (fun _ h => by cases h) editorOutside_row_tie rfl ⟨rfl, rfl⟩ (by kernel_rfl) rfl
    (fun f fn hf hfn => by
      obtain rfl : f = 3 := Option.some.inj ((show Tryz.prog.funcNamed "lanyard/lanyardlaw17.EditorOutside" = some 3 by kernel_rfl).symm.trans hf) |>.symm
      obtain rfl : fn = Tryz.f3 := (Option.some.inj (Tryz.func3.symm.trans hfn)).symm
      exact ⟨by kernel_rfl, fun j t ht => by
        rw [Tryz.params3] at ht
        have hm : t ∈ [22, 23, 26] := by simpa using Array.mem_of_getElem? ht
        have hall : ([22, 23, 26].all fun u => !Tryz.prog.wantsStandIn u) = true := by kernel_rfl
        exact (show Tryz.prog.wantsStandIn t = false by simpa using List.all_eq_true.1 hall t hm)⟩)
    (by kernel_rfl)
end Go.Proofs.YtnhhmieghbfalaaGreatDoor
end
