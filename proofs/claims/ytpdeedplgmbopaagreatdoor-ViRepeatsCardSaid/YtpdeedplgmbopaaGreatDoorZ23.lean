import Derived.Test.YtpdeedplgmbopaaGreatDoorZ4
import Derived.Test.YtpdeedplgmbopaaGreatDoorZ22
set_option linter.unusedSimpArgs false
set_option linter.unusedVariables false
/- Texts of mine, joined, their names in short: REdB REdR REdT REdF REdE. -/
section
namespace Go.Proofs.YtpdeedplgmbopaaGreatDoor
open Go.RowKit
open _root_.Go.Proofs.Tryz
section
variable {w0 w : World} {F : HP} {p y h : Nat} {L : List Int} {pt mk n : Int} {E : List (List Int)} {place : Nat} {s : bF} {l : List Int} {v wv nv : Value} {m : Nat} {xs ys : List Value}
theorem Si (H : V w0 w (qY p L pt mk • F)) : iQ prog 152 #[.pointer (some ⟨p, 0, none⟩)] w fun v w' => ∃ q, v = .pointer (some ⟨q, 0, none⟩) ∧ V w0 w' (qY q L pt mk • qY p L pt mk • F) := by
 refine ji func152 ntmps152 ?_
 refine ku O (aI ?_)
 obtain ⟨akk, akl, ahH, ahI, ahJ, akm, akn, ai9⟩ := (H).ref
 refine aB (uf O ?_)
 have WH := ai9.drew
 have oU := V.kp (WH.f2.f2)
 refine uN [4, 9, 13] oU O (gX 0 O oU O (gX 1 O oU O (jE 2 O oU O (gy 3 O oU 0 underlying222 O bV O (jf 4 O oU (fun W hW => jv ah O ((Kp.h hW)).get.2 O) (gX 6 O oU O (jE 7 O oU O (gy 8 O oU 1 underlying222 O ay O (jf 9 O oU (fun W hW => jv aC O ((Kp.h hW)).get.2 O) (gX 10 O oU O (jE 11 O oU O (gy 12 O oU 2 underlying222 O ay O (jf 13 O oU (fun W hW => jv aC O ((Kp.h hW)).get.2 O) (mQ 5 O (lJ (l := []) (WH.jO none) ((WH.f2).aP) ah UU O O (by first | omega | (simp only [List.length_append, List.length_nil, List.length_cons]; omega) | (simp; omega)) (by first | omega | (simp only [List.length_append, List.length_nil, List.length_cons]; omega) | (simp; omega))) ?_))))))))))))))
 rintro l2 w2 H2
 try simp only [List.nil_append] at H2
 have zx := V.kp (H2.f3.f3.f3)
 refine fD zx (fun W hW => (Kp.h hW).right.f2.f2) ?_
 refine iI 14 O zx (fun _ => fU (zl := [.slice none 0 0, .int .i64 0, .int .i64 0]) (pl := [(0, 1), (1, 1), (2, 1)]) [_, _, _] underlying222 zeroValue222 O (fun w => by kernel_rfl) O (.one (Rd.one ((H2).aP)) (.on (.on .nil))) O) ?_
 refine mQ 15 O (jF (l := [_, _, _]) H2 O O) ?_
 rintro _ w3 ⟨b3, rfl, H3⟩
 have Bc := V.kp (H3.f4.f4.f4.f4)
 refine iK Bc (by kernel_rfl) ?_
 refine iI 16 O Bc (fun _ => dB O) (pq (aX (lQ (dI results152 O ?_))))
 have Ho5 := H3.f4.f4
 have Hc6 := V.Xx ahH ahI ahJ Ho5
 exact ⟨_, O, V.Xx ahH ahI ahJ Hc6.f3.f3⟩
theorem NZ (H : V w0 w (oZ p E place • F)) (hE : E.length ≤ 60 ∧ (place < E.length ∨ place = 0) ∧ ∀ e ∈ E, e.length ≤ 1024) : iQ prog 153 #[.pointer (some ⟨p, 0, none⟩)] w fun v w' => ∃ q, v = .pointer (some ⟨q, 0, none⟩) ∧ V w0 w' (oZ q E place • oZ p E place • F) := by
 obtain ⟨u, HR⟩ := H.ahC
 obtain ⟨us, HR⟩ := HR.swap.ll
 obtain ⟨au, cu, rfl, -⟩ := (HR.aP).form
 have hE1 : E.length ≤ 60 := hE.1
 have hE2 : ∀ k, (E.getD k []).length ≤ 1024 := aa4 hE.2.2
 refine ji func153 ntmps153 ?_
 refine ku O (ku O (aI (ku O (bf ?_))))
 refine iC [(0, _)] (fun (⟨k, z⟩ : Nat × Value) => [(3, z), (4, .int .i64 (k : Int))]) (fun (⟨k, z⟩ : Nat × Value) W => k ≤ E.length ∧ ∃ zs, V w0 W (Row 22 1 z k zs • Em .i32 zs (E.take k) • Row 22 1 (.slice au E.length cu) E.length us • Em .i32 us E • eP p (.cells #[.slice au E.length cu, .int .i64 place] 176 (0, 0)) • F)) (fun (⟨k, z⟩ : Nat × Value) => E.length - k) ((0, .slice none 0 0)) mO uh ⟨by omega, [], (HR.f3.f3.f3).Tq.jO none⟩ ?_
 rintro ⟨k, z⟩ w1 ⟨hk, zs, HL⟩
 dsimp only [List.cons_append, List.nil_append]
 obtain ⟨az, cz, rfl, -⟩ := (HL.aP).form
 refine aI (bM O (oq O O (bI 0 underlying176 O sizeOf47 O (fC jy O (HL.f5).get.2 O (aQ (kX ((HL.f3).aP) jy O) (aQ (gW O O) (jr O (fun h1 => ?_) (fun h1 => ?_))))))))
 ·(try simp only [Z] at h1)
  refine fV (aI (bf ?_))
  have hkl : k < E.length := by omega
  have hek := hE2 k
  refine aB (jX O O (dK O (bI 0 underlying176 O sizeOf47 O (fC jy O (HL.f5).get.2 O (bJ O ?_)))))
  obtain ⟨bu, ou, cu, eu⟩ := Rd.rW ((HL.f3).aP) (by omega)
  cases eu
  refine aQ (dM jy bV O O (by omega)) ?_
  refine aQ (fF (dA ah O) O (by first | exact Rd.lX ((HL.f3).aP) (by omega) | exact Rd.xJ ((HL.f3).aP) (by omega) | exact Rd.xH ((HL.f3).aP) (by omega))) ?_
  refine aeL (fun ajC afQ => ?_)
  refine dS O func181 (ZL HL (fun W HW => (by rw [afQ]; exact (HW.f4).acR (by omega))) (by omega)) ?_
  rintro u3 w3 H3
  have Hf4 := H3.mY
  refine kF (lW (vs := [_]) Hf4 jy bV zeroValue22 O O O (by decide) (bg (by first | rfl | exact Rd.one ((Hf4).kD)) bW)) ?_
  rintro l5 w5 H5
  refine kF (iY H5.f3 jy aek O O O ((H5).aP) (bg (by first | rfl | exact Rd.one ((H5.f2).kD)) bW) (by omega) (by omega)) ?_
  rintro l6 w6 H6
  have Hd7 := H6.f2.right
  refine gU O (bZ (aH (aX (aB (bJ O (aQ (fQ O O (by omega)) (gU O (bZ ?_))))))))
  have HS := (Hd7.f6.f6.f6.f4.f5.f6).YZ.f2
  refine dX ((k + 1, l6)) ?_ ?_ ?_ ?_
  ·exact uh
  ·exact mO
  ·(try dsimp only)
   first | done | exact ⟨by omega, _, by rw [NW (d := []) hkl]; exact HS⟩
  ·(try dsimp only); omega
 ·(try simp only [Z] at h1)
  refine dR (aO (aO (bG (aX (bM O (oq O O (bI 1 underlying176 O ay O (fC aC O (HL.f5).get.2 O ?_))))))))
  refine aQ (fU (zl := [.slice none 0 0, .int .i64 0]) (pl := [(0, 1), (1, 1)]) [_, _] underlying176 zeroValue176 O (fun w => by kernel_rfl) O (.one (Rd.one ((HL).aP)) (.on .nil)) O) ?_
  refine kF (jF (l := [_, _]) HL O O) ?_
  rintro _ w8 ⟨b8, rfl, H8⟩
  refine fA O (dI results153 O ?_)
  have HL2 := V.aay (H8.f6.f6.f6.f4.f6.f6)
  rw [List.take_of_length_le (by omega)] at HL2
  have HL3 := V.NV HL2.f2
  exact ⟨_, O, (V.NV (V.aay HL3.f3.f3).f3).f2⟩
theorem N7 {x : Int} (H : V w0 w (eP p (.cells #[wv, nv, .int .i64 x] 166 (0, 0)) • Row 9 1 nv m ys • yT 1 wv m xs • F)) (hy : ∀ u ∈ ys, u.oneCell' = true) (hm : m ≤ 4097) : iQ prog 154 #[.pointer (some ⟨p, 0, none⟩)] w fun v w' => ∃ q nv', v = .pointer (some ⟨q, 0, none⟩) ∧
  V w0 w' (eP q (.cells #[wv, nv', .int .i64 x] 166 (0, 0)) • Row 9 1 nv' m ys • eP p (.cells #[wv, nv, .int .i64 x] 166 (0, 0)) • Row 9 1 nv m ys • yT 1 wv m xs • F) := by
 refine ji func154 ntmps154 ?_
 refine ku O (aI ?_)
 have Jk := H.drew
 have jU := V.kp (Jk.f3.f3.f3)
 refine uN [3, 7, 12] jU O (gX 0 O jU O (jE 1 O jU O (gy 2 O jU 0 jc O sizeOf33 O (jf 3 O jU (fun W hW => jv jR O ((Kp.h hW)).get.2 O) (gX 4 O jU O (jE 5 O jU O (gy 6 O jU 1 jc O sizeOf33 O (jf 7 O jU (fun W hW => jv jR O ((Kp.h hW)).get.2 O) (gX 9 O jU O (jE 10 O jU O (gy 11 O jU 2 jc O ay O (jf 12 O jU (fun W hW => jv aC O ((Kp.h hW)).get.2 O) (mQ 8 O (iY (Jk.jO none) jR adi O O O ((Jk.f2).aP) (by assumption) (by omega) (by omega)) ?_)))))))))))))
 rintro l1 w1 H1
 have adB := V.kp (H1.f4.f4.f4.f4)
 refine fD adB (fun W hW => (Kp.h hW).right.f3.f3.f3) ?_
 refine iI 13 O adB (fun _ => fU (zl := [.slice none 0 0, .slice none 0 0, .int .i64 0]) (pl := [(0, 1), (1, 1), (2, 1)]) [_, _, _] jc zeroValue166 O (fun w => by kernel_rfl) O (.one (Rd.one ((H1.f4).su)) (.one (Rd.one ((H1).aP)) (.on .nil))) O) ?_
 refine mQ 14 O (jF (l := [_, _, _]) H1 O O) ?_
 rintro _ w2 ⟨b2, rfl, H2⟩
 have zx := V.kp (H2.f5.f5.f5.f5.f5)
 refine iK zx (by kernel_rfl) ?_
 refine iI 15 O zx (fun _ => dB O) (pq (aX (lQ (dI results154 O ?_))))
 have HQ := H2.f5.f5.f5.f5.f5
 simp only [Nat.zero_add, List.nil_append] at HQ
 exact ⟨_, _, O, HQ⟩
theorem Ve {pb pk : Nat} {pv gv : Value} {x md rs : Int} {t : ByteArray} {ov rn : Bool} (H : V w0 w (qY pb L pt mk • oZ pk E place • Row 9 1 nv m ys • yT 1 wv m xs • F)) (hE : E.length ≤ 60 ∧ (place < E.length ∨ place = 0) ∧ ∀ e ∈ E, e.length ≤ 1024) (hy : ∀ u ∈ ys, u.oneCell' = true) (hm : m ≤ 4097) (o1 : pv.oneCell' = true) (o2 : gv.oneCell' = true) :
  iQ prog 115 #[.agg #[.pointer (some ⟨pb, 0, none⟩), .pointer (some ⟨pk, 0, none⟩), wv, nv, .int .i64 x, .string t, pv, gv, .int .i64 md, .bool ov, .int .i64 rs, .bool rn]] w fun v w' => ∃ qb qk nv',
   v = .agg #[.pointer (some ⟨qb, 0, none⟩), .pointer (some ⟨qk, 0, none⟩), wv, nv', .int .i64 x, .string t, pv, gv, .int .i64 md, .bool ov, .int .i64 rs, .bool rn] ∧
   V w0 w' (qY qb L pt mk • oZ qk E place • Row 9 1 nv' m ys • qY pb L pt mk • oZ pk E place • Row 9 1 nv m ys • yT 1 wv m xs • F) := by
 refine ji func115 ntmps115 ?_
 refine iy (kF (jF (l := [_, _, _, _, _, _, _, _, _, _, _, _]) H O O) ?_)
 rintro _ w1 ⟨b1, rfl, H1⟩
 refine kF (iR (l := [_, _, _, _, _, _, _, _, _, _, _, _]) H1 zeroValue172 O) ?_
 rintro _ w2 ⟨b2, rfl, H2⟩
 refine zk7 (bI 0 dO O sizeOf163 O (fC underlying163 O (H2.f2).get.2 O (dS O func152 (Si H2.f3) ?_)))
 rintro _ w3 ⟨q3, rfl, H3⟩
 refine bI 0 dO O sizeOf163 O (aJ (gB 0 (l' := [_, _, _, _, _, _, _, _, _, _, _, _]) H3.f4 sizeOf163 O O (by first | rfl | assumption) O O) ?_)
 rintro _ w4 H4
 refine zk7 (bI 1 dO O sizeOf164 O (fC underlying164 O (H4).get.2 O (dS O func153 (NZ H4.f5 (by assumption)) ?_)))
 rintro _ w5 ⟨q5, rfl, H5⟩
 refine bI 1 dO O sizeOf164 O (aJ (gB 1 (l' := [_, _, _, _, _, _, _, _, _, _, _, _]) H5.f3 sizeOf164 O O (by first | rfl | assumption) O O) ?_)
 rintro _ w6 H6
 refine zk7 (bI 2 dO O qJ O (aQ (pY 2 (xs := [_, _, _]) jc O qJ O O (H6).get.2 O) (kF (iR (l := [_, _, _]) H6 zeroValue166 O) ?_)))
 rintro _ w7 ⟨b7, rfl, H7⟩
 refine aJ (dG 0 (l' := [_, _, _]) (us := [_, _, _]) H7 qJ O O O (bg (by first | rfl | exact Rd.one ((H7.f9).su)) (bg (by first | rfl | exact Rd.one ((H7.f8).aP)) (aG bW))) O O) ?_
 rintro _ w8 H8
 refine zk7 (dS O func154 (N7 H8.f9.f9.f3 (by assumption) (by omega)) ?_)
 rintro _ w9 ⟨q9, nv9, rfl, H9⟩
 refine dK O (aQ (dV jc O qJ O O (H9).get.2) (bI 2 dO O qJ O (aJ (dG 2 (l' := [_, _, _, _, _, _, _, _, _, _, _, _]) (us := [_, _, _]) H9.f6 qJ O O O (bg (by first | rfl | exact Rd.one ((H9.f5).su)) (bg (by first | rfl | exact Rd.one ((H9.f2).aP)) (aG bW))) O O) ?_)))
 rintro _ w10 pz
 refine zk7 (aQ (dV dO O gV O O (pz).get.2) (aJ (dG 0 (l' := [_, _, _, _, _, _, _, _, _, _, _, _]) (us := [_, _, _, _, _, _, _, _, _, _, _, _]) pz.f11 gV O O O (aG (aG (bg (by first | rfl | exact Rd.one ((pz.f6).su)) (bg (by first | rfl | exact Rd.one ((pz.f3).aP)) (aG (aG (aG (aG (aG (aG (aG (aG bW)))))))))))) O O) ?_))
 rintro _ FM rY
 refine zkc ?_
 refine sS (.inl O) (QA results115 O dO O (by rw [afR]; rfl) (rY).get.2) ?_
 exact ⟨_, _, _, O, rY.right.right.right.f2.right.f3.f3.f5.f7.f5.f6.f7⟩
theorem V.adN {k : IntKind} (H : V w0 w (pF k v l • F)) : V w0 w (pF k v l • pF k v l • F) := H.sQ
theorem V.adO {A : List LE} (H : V w0 w (uM A • F)) : V w0 w (uM A • uM A • F) := H.sQ
theorem V.YE {h pb pk : Nat} {wv nv pv gv : Value} {A : List LE} {yf yt : Int} {ch : Bool} {u0 u1 u2 u3 u4 u5 u6 u7 u8 u9 ua ub : Value} (h1 : kK s [] A yf yt) (H : V w0 w (eP y (.cells (.pointer (some ⟨h, 0, none⟩) :: .pointer (some ⟨pb, 0, none⟩) :: .pointer (some ⟨pk, 0, none⟩) :: wv :: nv :: .int .i64 s.c.place :: .string (kJ s.hl s.c.tx s.c.place) :: pv :: gv :: .int .i64 s.c.mode :: .bool s.c.over :: .int .i64 s.c.res :: .bool s.c.run :: u0 :: u1 :: u2 :: u3 :: u4 :: u5 :: u6 :: u7 :: u8 :: u9 :: ua :: ub :: .bool s.given :: .bool s.minus :: .int .i64 s.arg :: .int .i64 s.DL :: .int .i64 s.Z8 :: .int .i64 s.Z9 :: .int .i64 s.qQ :: .bool s.inn :: .int .i64 s.cls :: .int .i64 yf :: .int .i64 yt :: .bool s.argues :: .bool s.killed :: .bool s.lT :: .slice none 0 0 :: .bool s.whole :: .bool ch :: []).toArray 174 (0, 0)) • qY pb s.c.L s.c.pt s.c.mark • oZ pk s.c.E s.c.at_ • yT 1 wv (s.hl.length + 1) (strs (qU s.hl)) • Row 9 1 nv (s.hl.length + 1) (strs (yR s.hl s.c.tx)) • pF .i64 pv (A.map (·.1)) • yT 1 gv A.length (A.map (·.2.1)) • uM A • kQ h s.hl s.base s.most • FT s.inn s.hl s.was [u0, u1, u2, u3, u4, u5, u6, u7, u8, u9, ua, ub] • F)) : V w0 w (sH y s • F) := by
  refine V.xE (y := y) (h := h) (pb := pb) (pk := pk) (wv := wv) (nv := nv) (pv := pv) (gv := gv) (ch := ch) (u0 := u0) (u1 := u1) (u2 := u2) (u3 := u3) (u4 := u4) (u5 := u5) (u6 := u6) (u7 := u7) (u8 := u8) (u9 := u9) (ua := ua) (ub := ub) (nw := .slice none 0 0) (es := []) h1 ?_
  rw [← h1.says]
  exact (H.vk none).of_eq (by unfold Oj; simp only [List.length_nil, List.flatMap_nil, List.map_nil]; ac_rfl)
theorem V.YF {h pb pk : Nat} {wv nv pv gv : Value} {A : List LE} {yf yt : Int} {ch : Bool} {u0 u1 u2 u3 u4 u5 u6 u7 u8 u9 ua ub : Value} (h1 : kK s [] A yf yt) (hi : s.inn = false) (H : V w0 w (eP y (.cells (.pointer (some ⟨h, 0, none⟩) :: .pointer (some ⟨pb, 0, none⟩) :: .pointer (some ⟨pk, 0, none⟩) :: wv :: nv :: .int .i64 s.c.place :: .string (kJ s.hl s.c.tx s.c.place) :: pv :: gv :: .int .i64 s.c.mode :: .bool s.c.over :: .int .i64 s.c.res :: .bool s.c.run :: u0 :: u1 :: u2 :: u3 :: u4 :: u5 :: u6 :: u7 :: u8 :: u9 :: ua :: ub :: .bool s.given :: .bool s.minus :: .int .i64 s.arg :: .int .i64 s.DL :: .int .i64 s.Z8 :: .int .i64 s.Z9 :: .int .i64 s.qQ :: .bool false :: .int .i64 s.cls :: .int .i64 yf :: .int .i64 yt :: .bool s.argues :: .bool s.killed :: .bool s.lT :: .slice none 0 0 :: .bool s.whole :: .bool ch :: []).toArray 174 (0, 0)) • qY pb s.c.L s.c.pt s.c.mark • oZ pk s.c.E s.c.at_ • yT 1 wv (s.hl.length + 1) (strs (qU s.hl)) • Row 9 1 nv (s.hl.length + 1) (strs (yR s.hl s.c.tx)) • pF .i64 pv (A.map (·.1)) • yT 1 gv A.length (A.map (·.2.1)) • uM A • kQ h s.hl s.base s.most • F)) (hu : ([u0, u1, u2, u3, u4, u5, u6, u7, u8, u9, ua, ub].all fun x => x.oneCell') = true) : V w0 w (sH y s • F) := by
  refine V.YE (y := y) (h := h) (pb := pb) (pk := pk) (wv := wv) (nv := nv) (pv := pv) (gv := gv) (ch := ch) (u0 := u0) (u1 := u1) (u2 := u2) (u3 := u3) (u4 := u4) (u5 := u5) (u6 := u6) (u7 := u7) (u8 := u8) (u9 := u9) (ua := ua) (ub := ub) h1 ?_
  rw [hi]
  exact (H.IW (hl := s.hl) (c := s.was) (u := [u0, u1, u2, u3, u4, u5, u6, u7, u8, u9, ua, ub]) hu).of_eq (by ac_rfl)
theorem Pe (H : V w0 w (sH y s • F)) : iQ prog 61 #[.pointer (some ⟨y, 0, none⟩)] w fun v w' => v = .int .i64 s.Dp ∧ V w0 w' (sH y s.bH • F) := by
 refine ji func61 ntmps61 ?_
 refine ku O (aI (aI ?_))
 obtain ⟨h_y, OM, OO, OQ, OT, ZO, ZP, A_y, ZQ, ZR, Va, Vb, Vd, OU, OV, OW, OX, OY, OZ, O4, O5, O6, O7, O8, O9, tY, GX, y5⟩ := (H).U8
 have hE9 := tY.rx.1.2
 have hy9 := @Qe (yR s.hl s.c.tx)
 obtain ⟨hv9, hk9, _⟩ := (y5.f9).Ym
 have hhl := hk9.1
 have o1 := (y5.f6).kD.one
 have o2 := (y5.f7).su.one
 refine aB (oq O O (bI 32 aT O aS O (fC cZ O (y5).get.2 O (jr O (fun h1 => ?_) (fun h1 => ?_)))))
 ·(try simp only [Z] at h1)
  have hin := h1
  refine kC O (aA (dI results61 O ?_))
  have V6 := y5.f12.f12.f12.f12.f12.f12.f12.f12.f12.f12.f12.f12
  have XQ := V.xE (s := s) tY V6
  exact ⟨by unfold bF.Dp; rw [if_pos hin], by rw [MW hin]; exact XQ⟩
 ·(try simp only [Z] at h1)
  have hin := h1
  refine fV (bM O (dK O (bI 32 aT O aS O (aJ (nX 32 y5 aS) ?_))))
  rintro _ w5 H5
  refine sG O (oq O O (bI 1 aT O gV O (aQ (pY 1 (xs := [_, _, _, _, _, _, _, _, _, _, _, _]) dO O gV O O (H5).get.2 O) (dS O func115 (Ve H5.f4.f5.f5.f5 (by assumption) (by assumption) (by omega) (by assumption) (by assumption)) ?_))))
  rintro _ w6 ⟨qb6, qk6, nv6, rfl, H6⟩
  refine dK O (bI 13 aT O gV O (aJ (dG 13 (l' := [_, _, _, _, _, _, _, _, _, _, _, _, _, _, _, _, _, _, _, _, _, _, _, _, _, _, _, _, _, _, _, _, _, _, _, _, _, _, _, _, _, _]) (us := [_, _, _, _, _, _, _, _, _, _, _, _]) H6.f8 gV O O O (aG (aG (bg (by first | rfl | exact Rd.one ((H6.f7).su)) (bg (by first | rfl | exact Rd.one ((H6.f3).aP)) (aG (aG (bg (by first | rfl | exact Rd.one ((H6.f9).kD)) (bg (by first | rfl | exact Rd.one ((H6.f10).su)) (aG (aG (aG (aG bW)))))))))))) O O) ?_))
  rintro _ w7 H7
  refine sG O (jX O O (dK O (bI 33 aT O ay O (aJ (nX 33 H7 ay) ?_))))
  rintro _ w8 H8
  refine dK O (bI 34 aT O ay O (aJ (nX 34 H8 ay) ?_))
  rintro _ w9 H9
  refine dK O (bI 35 aT O ay O (aJ (nX 35 H9 ay) ?_))
  rintro _ w10 pz
  refine sG O (jX O O (jX O O (dK O (bI 36 aT O aS O (aJ (nX 36 pz aS) ?_)))))
  rintro _ FM rY
  refine dK O (bI 37 aT O aS O (aJ (nX 37 rY aS) ?_))
  rintro _ w12 vM
  refine dK O (bI 38 aT O aS O (aJ (nX 38 vM aS) ?_))
  rintro _ PD xI
  refine dK O (bI 40 aT O aS O (aJ (nX 40 xI aS) ?_))
  rintro _ Pz yF
  refine dK O (bI 41 aT O aS O (aJ (nX 41 yF aS) ?_))
  rintro _ QI yA
  refine sG O (dK O (bI 39 aT O bU O (aJ (nX 39 yA bU) ?_)))
  rintro _ w16 vN
  refine iE (kC O (dI results61 O ?_))
  have hin' : s.inn = false := by simpa using hin
  have Wi := vN.f8
  have Wj := Wi.acd
  have aja := Wj.f10
  have ajb := aja.adN
  have aa8 := ajb.f12
  have Ze := aa8.acd
  have abM := Ze.f14
  have abN := abM.adO
  have afS := abN.f2.f4.f6.f12.f9.f12.f12
  have afT := V.adM (c := s.c) tY.Jw tY.placed afS
  have HX := afT.f11.right.f11.right.f11.right.f10.f3.f4.f5.f10.f7.f10.f10.f10
  rw [show s.DL = s.c.last from if_neg (by simp [hin']), show s.Z8 = s.c.fr from if_neg (by simp [hin']), show s.Z9 = s.c.to from if_neg (by simp [hin'])] at HX
  exact ⟨by unfold bF.Dp; rw [if_neg (by simp [hin'])], by rw [uo hin']; exact V.YE (uo hin' ▸ tY.begin hin') HX⟩
end
end Go.Proofs.YtpdeedplgmbopaaGreatDoor
end
section
namespace Go.Proofs.YtpdeedplgmbopaaGreatDoor
open Go.RowKit
section
variable {w0 w : World} {F : HP} {p y h : Nat} {s : bF} {l dl il : List Int} {v d i : Value} {a x j k : Int}
end
section
variable {w0 w : World} {F : HP} {p y h : Nat} {s : bF} {l : List Int} {v : Value} {j k : Int}
theorem kK.cls {es : List fM} {A : List LE} {yf yt : Int} (h : kK s es A yf yt) (c : Int) (hc : c ≠ 2) : kK { s with cls := c } es A yf yt :=
  ⟨h.ok, ⟨h.rx.1, h.rx.2.1, fun _ h2 => absurd h2 hc⟩, h.says, h.Jw, h.placed, h.Ut⟩
end
end Go.Proofs.YtpdeedplgmbopaaGreatDoor
end
section
namespace Go.Proofs.YtpdeedplgmbopaaGreatDoor
open Go.RowKit
open _root_.Go.Proofs.Tryz
theorem FN.one {I : Hp} {sz n : Nat} {v : Value} {xs : List Value} (h : FN I sz v n xs) : v.oneCell' = true := by obtain ⟨_, a, c, rfl, _⟩ := h; rfl
section
variable {w0 w : World} {F : HP} {p y h : Nat} {s : bF} {u v lv : Value} {es les : List fM} {gs : List (Value × List fM)} {on : Bool}
theorem V.acj (H : V w0 w (qP gs • F)) : ∀ x ∈ gs.map (·.1), x.oneCell' = true := by
  obtain ⟨I, h, hI⟩ := H.uZ
  intro x hx
  obtain ⟨g, hg, rfl⟩ := List.mem_map.1 hx
  obtain ⟨k, hk, rfl⟩ := List.getElem_of_mem hg
  have := h k hk
  rw [List.getD_eq_getElem?_getD, List.getElem?_eq_getElem hk] at this
  exact this.1.one
theorem V.adP (H : V w0 w (FY v es • F)) : V w0 w (nC es • FY v es • F) := H.sQ.GY (rX (fun I h => h.2) _)
theorem ack {α : Type _} (l : List α) (u : α) (h : l ≠ []) : l.set (l.length - 1) u = l.dropLast ++ [u] := by
  have e := List.dropLast_concat_getLast h
  have hl : l.dropLast.length = l.length - 1 := List.length_dropLast
  conv => lhs; rw [← e]
  rw [List.set_append_right _ _ (by simp)]
  simp
theorem V.ZT (hg : gs ≠ []) (H : V w0 w (Row 80 1 v gs.length ((gs.map (·.1)).set (gs.length - 1) u) • FY u es • qP gs • F)) : V w0 w (glK v (gs.dropLast ++ [(u, es)]) • F) := by
  have h0 : 0 < gs.length := List.length_pos_iff.2 hg
  have H1 := (H.f3).Tv (gs.length - 1)
  rw [← List.dropLast_eq_take] at H1
  have hm : (gs.map (·.1)).set (gs.length - 1) u = gs.dropLast.map (·.1) ++ [u] := by
    have := ack (gs.map (·.1)) u (by simpa using hg)
    rw [List.length_map] at this
    rw [this, List.map_dropLast]
  have hl : gs.length = gs.dropLast.length + 1 := by rw [List.length_dropLast]; omega
  rw [hm, hl] at H1
  exact (V.vS (H1.f2.f3.f2)).ET
theorem Qr (gs : List (Value × List fM)) (x : Value × List fM) : ES (gs ++ [x]) = ES gs ++ [x.2.map fM.says] := by unfold ES; rw [List.map_append]; rfl
theorem Vf (hG : ES gs = s.here) (hne : gs ≠ []) (hl : gs.getD (gs.length - 1) default = (lv, les)) (hes : es.map fM.says = s.put) (hp : s.put ≠ []) : ES (gs.dropLast ++ [(u, les ++ es)]) = s.iO true := by
  have h0 : s.here ≠ [] := by rw [← hG]; unfold ES; simpa using hne
  have h1 : s.here.getLast h0 = les.map fM.says := by
    have e : s.here.getLast? = some (les.map fM.says) := by
      rw [← hG]; unfold ES
      rw [List.getLast?_map, List.getLast?_eq_getElem?]
      rw [List.getD_eq_getElem?_getD, List.getElem?_eq_getElem (by have := List.length_pos_iff.2 hne; omega)] at hl
      rw [List.getElem?_eq_getElem (by have := List.length_pos_iff.2 hne; omega)]
      simp only [Option.getD_some] at hl
      rw [hl]; rfl
    rw [List.getLast?_eq_some_getLast h0] at e
    exact Option.some.inj e
  unfold bF.iO
  rw [if_neg hp, if_pos rfl, List.getLast?_eq_some_getLast h0, Qr]
  have h2 : ES gs.dropLast = s.here.dropLast := by rw [← hG]; unfold ES; rw [List.map_dropLast]
  rw [h1, h2]
  show _ ++ [(les ++ es).map fM.says] = _
  rw [List.map_append, hes]
theorem N8 (hG : ES gs = s.here) (hes : es.map fM.says = s.put) (hp : s.put ≠ []) (h : ¬ (on = true ∧ 0 < gs.length)) : ES (gs ++ [(u, es)]) = s.iO on := by
  unfold bF.iO
  rw [if_neg hp, Qr, hG]
  show s.here ++ [es.map fM.says] = _
  rw [hes]
  cases on with
  | false => rw [if_neg (by decide)]
  | true =>
    have h0 : s.here = [] := by
      have : gs = [] := List.eq_nil_of_length_eq_zero (by by_cases hx : 0 < gs.length; exact absurd ⟨rfl, hx⟩ h; omega)
      rw [← hG, this]; rfl
    rw [if_pos rfl, h0]; rfl
theorem Dz {x0 x1 x2 x3 x4 x6 x9 x10 x11 x12 y7 x14 x15 x16 x17 x18 x19 x20 x21 zV x23 x24 x25 Ak x27 x28 x29 x30 x31 x32 Bh x34 SN SQ SS x38 x40 x41 : Value} {pv gv nw : Value} {A : List LE} (hA : Jw A = s.c.un) (hP : yj s.hl A) (hS : es.map fM.says = s.put) (hok : nT s) (hx : IV s.c) (hhl : s.hl.length ≤ 4096)
  (H : V w0 w (eP y (.cells (x0 :: x1 :: x2 :: x3 :: x4 :: .int .i64 s.c.place :: x6 :: pv :: gv :: x9 :: x10 :: x11 :: x12 :: y7 :: x14 :: x15 :: x16 :: x17 :: x18 :: x19 :: x20 :: x21 :: zV :: x23 :: x24 :: x25 :: Ak :: x27 :: x28 :: x29 :: x30 :: x31 :: x32 :: Bh :: x34 :: SN :: SQ :: SS :: x38 :: nw :: x40 :: x41 :: []).toArray 174 (0, 0)) • pF .i64 pv (A.map (·.1)) • yT 1 gv A.length (A.map (·.2.1)) • uM A • Row 189 3 nw es.length (es.flatMap fM.enc) • nC es • F)) :
  iQ prog 116 #[.pointer (some ⟨y, 0, none⟩), .bool on] w fun _ w' => ∃ pv' gv' A' nw', Jw A' = (s.dQ on).c.un ∧ yj s.hl A' ∧
   V w0 w' (eP y (.cells (x0 :: x1 :: x2 :: x3 :: x4 :: .int .i64 s.c.place :: x6 :: pv' :: gv' :: x9 :: x10 :: x11 :: x12 :: y7 :: x14 :: x15 :: x16 :: x17 :: x18 :: x19 :: x20 :: x21 :: zV :: x23 :: x24 :: x25 :: Ak :: x27 :: x28 :: x29 :: x30 :: x31 :: x32 :: Bh :: x34 :: SN :: SQ :: SS :: x38 :: nw' :: x40 :: x41 :: []).toArray 174 (0, 0)) • pF .i64 pv' (A'.map (·.1)) • yT 1 gv' A'.length (A'.map (·.2.1)) • uM A' • Row 189 3 nw' 0 [] • nC [] • F) := by
 have ako := ZN hx
 have hput := hok.2.2.2.2.1
 have hsp := qF s.here s.put
 have hpl := Xv hP (by omega)
 have hlp : es.length = s.put.length := by rw [← hS]; simp
 refine qc func116 ntmps116 ?_
 refine aI (bM O (dK O (bI 39 aT O bU O (fC aW O (H).get.2 O (aQ (kX ((H.f5).aP) aW O) (aQ (eF O O) (jr O (fun h1 => ?_) (fun h1 => ?_))))))))
 ·(try simp only [Z] at h1)
  have he : es = [] := List.eq_nil_of_length_eq_zero (by omega)
  have hp : s.put = [] := List.eq_nil_of_length_eq_zero (by omega)
  refine lQ (aA (we0 results116 ?_))
  subst he
  exact ⟨pv, gv, A, nw, by rw [Dq hp]; exact hA, hP, H.f6.f6.f6.f6.f6.f6⟩
 ·(try simp only [Z] at h1)
  have hp : s.put ≠ [] := fun hx => h1 (by rw [hlp, hx]; rfl)
  refine fV (bM O (dK O (bI 1 aT O gV O (bI 2 dO O qJ O (bI 2 jc O ay O (fC aC O (H).get.2 O (dZ O (bM O (dK O (bI 1 aT O gV O (bI 6 dO O sizeOf170 O (bJ O (dS O func155 (Xz H.f4.f4.f4.f4) ?_)))))))))))))
  rintro u1 w1 ⟨gs1, ajc, H1⟩
  obtain ⟨gu, rfl⟩ : ∃ q, q = u1 := ⟨_, rfl⟩
  obtain ⟨gs, rfl⟩ : ∃ q, q = gs1 := ⟨_, rfl⟩
  have hG : ES gs = s.here := by rw [ajc, hA]; rfl
  have hgl : gs.length = s.here.length := by rw [← hG]; exact (List.length_map _).symm
  have Ho2 := H1.f2.f2
  have Hc3 := Ho2
  have hone := (Hc3.f2).acj
  refine dZ O (ku O (bM O (bJ O (kF (iY (Hc3.jO none) bQ JO O O O ((Hc3).su) (by assumption) (by omega) (by omega)) ?_))))
  rintro l4 w4 H4
  have HX4 := H4
  rw [Nat.zero_add, List.nil_append] at HX4
  refine dZ O ?_
  refine kL [(0, _), (4, _)] (fun (ou : Value) => [(6, ou)]) (fun (ou : Value) W => ∃ gs, ES gs = s.iO on ∧ V w0 W (yT 1 ou gs.length (gs.map (·.1)) • qP gs • eP y (.cells (x0 :: x1 :: x2 :: x3 :: x4 :: .int .i64 s.c.place :: x6 :: pv :: gv :: x9 :: x10 :: x11 :: x12 :: y7 :: x14 :: x15 :: x16 :: x17 :: x18 :: x19 :: x20 :: x21 :: zV :: x23 :: x24 :: x25 :: Ak :: x27 :: x28 :: x29 :: x30 :: x31 :: x32 :: Bh :: x34 :: SN :: SQ :: SS :: x38 :: nw :: x40 :: x41 :: []).toArray 174 (0, 0)) • pF .i64 pv (A.map (·.1)) • yT 1 gv A.length (A.map (·.2.1)) • uM A • F)) uh ?_ ?_
  ·rintro ou w5 ⟨gs, hG, HJ⟩
   dsimp only [List.cons_append, List.nil_append]
   refine bM O (dK O (bI 1 aT O gV O (bI 6 dO O sizeOf170 O (jX O O (dS O func156 (U9 HJ.f2.f2.f6.f6.f6.f6 (by assumption)) ?_)))))
   rintro _ w6 ⟨pv6, gv6, H6⟩
   refine iE (aB (oq O O (bI 39 aT O bU O (aJ (nX 39 H6 bU) ?_))))
   rintro _ w7 H7
   refine bZ (mX (.inr O) results116 ?_)
   have HQ := (H7.f4.f4.f4.f4).vk none |>.edL
   refine ⟨_, _, _, _, ?_, Xy hP ⟨hok.1.1, hok.1.2.1⟩, HQ.f6.f6.f6.f6⟩
   rw [nJ hp, adJ, hA, hG]; rfl
  ·skip
   refine bM O (jm O (fun h2 => ?_) (fun h2 => ?_))
   ·(try simp only [Z] at h2)
    refine aY (bJ O (aY (aQ (kX ((HX4).aP) bQ O) (aY (aQ (eX O O) (je O O (jr O (fun h3 => ?_) (fun h3 => ?_))))))))
    ·(try simp only [Z] at h3)
     refine aI ?_
     have ajd : on = true := by first | assumption | (simp_all; done)
     have hne : gs ≠ [] := fun hx => by subst hx; simp at *
     refine aB (dZ O (bM O (jX O O (aQ (kX ((HX4).aP) bQ O) (aQ (jk O O (by omega)) ?_)))))
     obtain ⟨bl4, ol4, cl4, el4⟩ := Rd.rW ((HX4).aP) (by omega)
     cases el4
     refine aQ (dM bQ bU O O (by omega)) ?_
     refine aQ (fF (dA aW O) O (by first | exact Rd.lX ((HX4).aP) (by omega) | exact Rd.xJ ((HX4).aP) (by omega) | exact Rd.xH ((HX4).aP) (by omega))) ?_
     rw [show (gs.map (·.1)).getD (((gs.length : Nat) : Int) - 1).toNat undef = (gs.getD (gs.length - 1) default).1 from by have := List.length_pos_iff.2 hne; rw [show (((gs.length : Nat) : Int) - 1).toNat = gs.length - 1 from by omega]; simp [List.getD_eq_getElem?_getD, show gs.length - 1 < gs.length from by omega]]
     obtain ⟨gl, A8, hg⟩ : ∃ gl A8, gs.getD (gs.length - 1) default = (gl, A8) := ⟨_, _, rfl⟩
     rw [hg]
     have Ho8 := HX4.f3
     have Vr := Ho8.KW (by have := List.length_pos_iff.2 hne; omega) hg
     have ajD := (Vr).aaM
     have hgm : A8.map fM.says ∈ s.here := by rw [← hG]; exact List.mem_map.2 ⟨(gl, A8), by rw [← hg]; exact zW (by have := List.length_pos_iff.2 hne; omega), rfl⟩
     have hgb := KX hgm
     rw [List.length_map] at hgb
     have akp : A8.length ≤ 16384 := by unfold ig at hput; omega
     refine kF (iY (Vr.jO none) aW BP O O O ((Vr).yV) (by assumption) (by omega) (by omega)) ?_
     rintro l10 w10 pz
     have HX7 := pz
     rw [Nat.zero_add, List.nil_append] at HX7
     refine dZ O ?_
     have ajE := (HX7.f11).Eo
     refine aB (jX O O (aQ (jH bQ O) (aQ (jk O O (by omega)) (jX O O (dK O (bI 39 aT O bU O (fC aW O (HX7.f6).get.2 O (kF (iY HX7 aW BP O O O ((HX7.f10).aP) (by assumption) (by omega) (by omega)) ?_))))))))
     rintro l11 FM rY
     refine aQ (dM bQ bU O O (by omega)) (aJ (QC 0 rY.f4 bU O O (by first | rfl | exact Rd.one ((rY).aP)) (by omega) (by decide)) ?_)
     rintro _ w12 vM
     have afa := vM.f3
     have afb := (afa.adP).f2.right
     have afw := afb.f11.f2.f4
     have afx := V.tq (es := A8 ++ es) (V.deep (V.KZ rfl afw))
     have Wi := afx.f2
     have HX8 := Wi
     rw [show (((gs.length : Nat) : Int) - 1).toNat * 1 + 0 = gs.length - 1 from by omega] at HX8
     have afB := HX8.f3.f3.f3
     have afC := (V.ZT hne afB).YB
     have hGJ := Vf (s := s) (u := l11) hG hne hg hS hp
     rw [← ajd] at hGJ
     refine bZ ?_
     refine dD (_) mO uh (by (try dsimp only); exact ⟨_, hGJ, afC.f3.right.f7.right.f6.f6.f6.f6.f6.f6⟩)
    ·(try simp only [Z] at h3)
     have aaX := HX4.f9.f9
     have Ws := V.tq (v := nw) (es := es) (V.deep aaX)
     have hnj : ¬ (on = true ∧ 0 < gs.length) := by first | omega | simp_all | (intro hx; simp_all; omega)
     refine aB (jX O O (dK O (bI 39 aT O bU O (fC aW O (Ws.f5).get.2 O (kF (lW (vs := [_]) Ws bQ bU oG O O O (by decide) (bg (by first | rfl | exact Rd.one ((Ws).yV)) bW)) ?_)))))
     rintro l22 w22 KQ
     refine kF (iY KQ.f3 bQ JO O O O ((KQ).aP) (bg (by first | rfl | exact Rd.one ((KQ.f2).yV)) bW) (by omega) (by omega)) ?_
     rintro l23 w23 BK
     have aje := BK.f2.right
     have afS := aje.f4.f3.f3
     have afT := (V.vS afS).ET.YB
     have hGJ := N8 (s := s) (on := on) (u := nw) hG hS hp hnj
     refine gU O (bZ ?_)
     refine dD (_) mO uh (by (try dsimp only); exact ⟨_, hGJ, afT.f3.right.f6.f6.f6.f6.f6.f6⟩)
   ·(try simp only [Z] at h2)
    refine bn (bn (bn (fG O O (iE (oh ?_)))))
    have ajf := HX4.f9.f9
    have afU := V.tq (v := nw) (es := es) (V.deep ajf)
    have hnj : ¬ (on = true ∧ 0 < gs.length) := by first | omega | simp_all | (intro hx; simp_all; omega)
    refine aB (jX O O (dK O (bI 39 aT O bU O (fC aW O (afU.f5).get.2 O (kF (lW (vs := [_]) afU bQ bU oG O O O (by decide) (bg (by first | rfl | exact Rd.one ((afU).yV)) bW)) ?_)))))
    rintro l29 w29 Z7
    refine kF (iY Z7.f3 bQ JO O O O ((Z7).aP) (bg (by first | rfl | exact Rd.one ((Z7.f2).yV)) bW) (by omega) (by omega)) ?_
    rintro l30 w30 Vm
    have ajg := Vm.f2.right
    have ajh := ajg.f4.f3.f3
    have aji := (V.vS ajh).ET.YB
    have hGJ := N8 (s := s) (on := on) (u := nw) hG hS hp hnj
    refine gU O (bZ ?_)
    refine dD (_) mO uh (by (try dsimp only); exact ⟨_, hGJ, aji.f3.right.f6.f6.f6.f6.f6.f6⟩)
end
theorem kK.bad {s : bF} {es : List fM} {A A' : List LE} {yf yt : Int} (h : kK s es A yf yt) (hin : s.inn = true) (hA : _root_.Go.Proofs.YtpdeedplgmbopaaGreatDoor.Jw A' = s.was.un) (hP : yj s.hl A') : kK s.Au [] A' yf yt :=
  ⟨WB h.ok hin, ⟨(h.rx.2.1 hin).1, fun hi => absurd hi (by show ¬ false = true; decide), fun hi => absurd hi (by show ¬ false = true; decide)⟩, rfl, hA, hP, fun hi => absurd hi (by show ¬ false = true; decide)⟩
theorem yS (s : bF) : s.kU = { s with c := { s.c with un := (s.dQ (s.typed && s.c.run)).c.un, run := s.typed && (!s.put.isEmpty || s.c.run), last := s.cls, fr := if s.cls = 2 then s.c.fr else 0, to := if s.cls = 2 then s.c.to else 0 }, given := if s.argues = true then s.given else false, minus := if s.argues = true then s.minus else false, arg := if s.argues = true then s.arg else -1, inn := false, put := [] } := by
  unfold bF.kU bF.jT bF.dQ
  by_cases ha : s.argues = true
  · by_cases hp : s.put = []
    · by_cases hc : s.cls = 2
      · simp [ha, hp, hc, bF.tC]
      · simp [ha, hp, hc, bF.tC]
    · by_cases hc : s.cls = 2
      · simp [ha, hp, hc, bF.tC, bF.lY, bF.iO, bF.here]
      · simp [ha, hp, hc, bF.tC, bF.lY, bF.iO, bF.here]
  · by_cases hp : s.put = []
    · by_cases hc : s.cls = 2
      · simp [ha, hp, hc, bF.tC]
      · simp [ha, hp, hc, bF.tC]
    · by_cases hc : s.cls = 2
      · simp [ha, hp, hc, bF.tC, bF.lY, bF.iO, bF.here]
      · simp [ha, hp, hc, bF.tC, bF.lY, bF.iO, bF.here]
theorem kK.good {s : bF} {es : List fM} {A A' : List LE} {yf yt : Int} (h : kK s es A yf yt) (hA : _root_.Go.Proofs.YtpdeedplgmbopaaGreatDoor.Jw A' = (s.dQ (s.typed && s.c.run)).c.un) (hP : yj s.hl A') : kK s.kU [] A' yf yt := by
  have hok : nT s.kU := by
    have h1 := Qo (yc h.ok) (s := s.jT) (by unfold bF.jT; split <;> exact h.rx.1) (s.typed && s.c.run)
    unfold bF.kU
    dsimp only
    split <;> exact h1
  have hx : IV (s.dQ (s.typed && s.c.run)).c := (Qp h.ok h.rx _).1
  rw [yS] at hok ⊢
  exact ⟨hok, ⟨⟨hx.1, h.rx.1.2⟩, fun hi => absurd hi (by show ¬ false = true; decide), fun hi => absurd hi (by show ¬ false = true; decide)⟩, rfl, hA, hP, fun hi => absurd hi (by show ¬ false = true; decide)⟩
section
variable {w0 w : World} {F : HP} {p y h : Nat} {s : bF} {x : Int}
theorem Vg (hin : s.inn = true) (hx : x ≠ 0) (H : V w0 w (sH y s • F)) : iQ prog 64 #[.pointer (some ⟨y, 0, none⟩), .int .i64 x] w fun v w' => v = .int .i64 x ∧ V w0 w' (sH y s.Au • F) := by
 refine qc func64 ntmps64 ?_
 refine ku O (aI (aI ?_))
 obtain ⟨h_y, OM, OO, OQ, OT, ZO, ZP, A_y, ZQ, ZR, Va, Vb, Vd, OU, OV, OW, OX, OY, OZ, O4, O5, O6, O7, O8, O9, tY, GX, y5⟩ := (H).U8
 have HI := y5
 rw [hin] at HI
 obtain ⟨qb, qk, qw, qn, qp, qg, qA, hu, hqA, hqP, hu1, HW⟩ := (HI.f12).ai8
 simp only [JA, List.cons.injEq, and_true] at hu
 obtain ⟨rfl, rfl, rfl, rfl, rfl, rfl, rfl, rfl, rfl, rfl, rfl, rfl⟩ := hu
 refine aB (oq O O (bI 32 aT O aS O (fC cZ O (HW.f8).get.2 O (aQ (kG O) (iE (Oh O (fun h1 => ?_)))))))
 (try simp only [Z] at h1)
 refine fV (bM O (dK O (bI 32 aT O aS O (aJ (nX 32 HW.f8 aS) ?_))))
 rintro _ w2 H2
 refine rP (bM O (aQ (gY O O) (jr O (fun h2 => ?_) (fun h => by exfalso; (try simp only [Z] at h); exact hx h))))
 (try simp only [Z] at h2)
 refine bM O (oq O O (bI 13 aT O gV O (aQ (pY 13 (xs := [_, _, _, _, _, _, _, _, _, _, _, _]) dO O gV O O (H2).get.2 O) (dK O (bI 1 aT O gV O (aJ (dG 1 (l' := [_, _, _, _, _, _, _, _, _, _, _, _, _, _, _, _, _, _, _, _, _, _, _, _, _, _, _, _, _, _, _, _, _, _, _, _, _, _, _, _, _, _]) (us := [_, _, _, _, _, _, _, _, _, _, _, _]) H2 gV O O O (aG (aG (bg (by first | rfl | exact Rd.one ((H2.f4).su)) (bg (by first | rfl | exact Rd.one ((H2.f5).aP)) (aG (aG (bg (by first | rfl | exact Rd.one ((H2.f6).kD)) (bg (by first | rfl | exact Rd.one ((H2.f7).su)) (aG (aG (aG (aG bW)))))))))))) O O) ?_))))))
 rintro _ w3 H3
 refine sG O (dK O (bI 39 aT O bU O (aJ (nX 39 H3 bU) ?_)))
 rintro _ w4 H4
 refine sG O (dK O (bI 31 aT O sizeOf2 O (fC underlying2 O (H4).get.2 O (aQ (I8 O O) (dK O (bI 31 aT O sizeOf2 O (aJ (nX 31 H4 sizeOf2) ?_)))))))
 rintro _ w5 H5
 refine sG O (jX O O (dK O (bI 25 aT O aS O (aJ (nX 25 H5 aS) ?_))))
 rintro _ w6 H6
 refine dK O (bI 26 aT O aS O (aJ (nX 26 H6 aS) ?_))
 rintro _ w7 H7
 refine dK O (bI 27 aT O ay O (aJ (nX 27 H7 ay) ?_))
 rintro _ w8 H8
 refine sG O (jX O O (dK O (bI 28 aT O ay O (aJ (nX 28 H8 ay) ?_))))
 rintro _ w9 H9
 refine dK O (bI 29 aT O ay O (aJ (nX 29 H9 ay) ?_))
 rintro _ w10 pz
 refine dK O (bI 30 aT O ay O (aJ (nX 30 pz ay) ?_))
 rintro _ FM rY
 refine sG O (dK O (bI 39 aT O bU O (aJ (nX 39 rY bU) ?_)))
 rintro _ w12 vM
 refine sG O (fA O (aA (dI results64 O ?_)))
 exact ⟨O, V.YF (s := s.Au) (tY.bad hin hqA hqP) O vM.f9.right.f9.right.f9.right.f9.right.f9.right.f9.right.f9.right.f10.right.f10.right.f9.f9.f9.f9.f9.f9.f9.f9.f9 hu1⟩
theorem acm (s : bF) : s.typed = (decide (s.cls = 3) && s.whole) := by unfold bF.typed; congr 1
theorem empty_eq (l : List jl) : (!l.isEmpty) = decide ((l.length : Int) > 0) := by cases l with
  | nil => rfl
  | cons x r => simp
theorem Sj (hin : s.inn = true) (H : V w0 w (sH y s • F)) : iQ prog 64 #[.pointer (some ⟨y, 0, none⟩), .int .i64 0] w fun v w' => v = .int .i64 0 ∧ V w0 w' (sH y s.kU • F) := by
  obtain ⟨on, hon⟩ : ∃ on, on = (s.typed && s.c.run) := ⟨_, rfl⟩
  obtain ⟨rn, hrn⟩ : ∃ rn, rn = (s.typed && (!s.put.isEmpty || s.c.run)) := ⟨_, rfl⟩
  have UA := hon
  have IY := hrn
  rw [acm] at UA IY
  rw [empty_eq] at IY
  refine qc func64 ntmps64 ?_
  obtain ⟨h_y, OM, OO, OQ, OT, ZO, ZP, A_y, ZQ, ZR, Va, Vb, Vd, OU, OV, OW, OX, OY, OZ, O4, O5, O6, O7, O8, O9, tY, GX, y5⟩ := (H).U8
  have HP9 := y5
  rw [← GX] at HP9
  have acn := tY.Jw
  have hplA := tY.placed
  have XA := tY.says
  have afV := tY.ok
  have hxA := tY.rx.1
  have afW : s.hl.length ≤ 4096 := by obtain ⟨hv9, hk9, _⟩ := (HP9.f9).Ym; exact hk9.1
  have hu1 := ZM (HP9.f12)
  refine ku O (aI (bM O (dK O (bI 32 aT O aS O (fC cZ O (HP9).get.2 O (aQ (kG O) (jr O (fun h => by exfalso; (try simp only [Z] at h); simp [hin] at h) (fun h1 => ?_))))))))
  (try simp only [Z] at h1)
  refine fV (bM O (dK O (bI 32 aT O aS O (aJ (nX 32 HP9 aS) ?_))))
  rintro _ w2 H2
  refine rP (bM O (aQ (gY O O) (iE (Oh O (fun h2 => ?_)))))
  (try simp only [Z] at h2)
  refine fV (bM O (dK O (bI 33 aT O ay O (fC aC O (H2).get.2 O (aQ (eF O O) (dZ O (bM O (dK O (bI 39 aT O bU O (fC aW O (H2).get.2 O (aQ (kX ((H2.f10).aP) aW O) (aQ (eX O O) (dZ O ?_)))))))))))))
  refine kL [(0, _), (5, _), (6, _)] (fun (_ : Unit) => []) (fun (_ : Unit) W => ∃ pv2 gv2 A2 nw2, Jw A2 = (s.dQ on).c.un ∧ yj s.hl A2 ∧ V w0 W (eP y (.cells (.pointer (some ⟨h_y, 0, none⟩) :: .pointer (some ⟨OM, 0, none⟩) :: .pointer (some ⟨OO, 0, none⟩) :: OQ :: OT :: .int .i64 s.c.place :: .string (kJ s.hl s.c.tx s.c.place) :: pv2 :: gv2 :: .int .i64 s.c.mode :: .bool s.c.over :: .int .i64 s.c.res :: .bool s.c.run :: OU :: OV :: OW :: OX :: OY :: OZ :: O4 :: O5 :: O6 :: O7 :: O8 :: O9 :: .bool s.given :: .bool s.minus :: .int .i64 s.arg :: .int .i64 s.DL :: .int .i64 s.Z8 :: .int .i64 s.Z9 :: .int .i64 s.qQ :: .bool false :: .int .i64 s.cls :: .int .i64 Va :: .int .i64 Vb :: .bool s.argues :: .bool s.killed :: .bool s.lT :: nw2 :: .bool s.whole :: .bool Vd :: []).toArray 174 (0, 0)) • pF .i64 pv2 (A2.map (·.1)) • yT 1 gv2 A2.length (A2.map (·.2.1)) • uM A2 • Row 189 3 nw2 0 [] • nC [] • qY OM s.c.L s.c.pt s.c.mark • oZ OO s.c.E s.c.at_ • yT 1 OQ (s.hl.length + 1) (strs (qU s.hl)) • Row 9 1 OT (s.hl.length + 1) (strs (yR s.hl s.c.tx)) • kQ h_y s.hl s.base s.most • FT s.inn s.hl s.was [OU, OV, OW, OX, OY, OZ, O4, O5, O6, O7, O8, O9] • F)) vC ?_ ?_
  · rintro _ w3 ⟨pv2, gv2, A2, nw2, hl2, hp2, HJ⟩
    dsimp only [List.cons_append, List.nil_append]
    refine kL [(0, _)] (fun (_ : Unit) => []) (fun (_ : Unit) W => V w0 W (eP y (.cells (.pointer (some ⟨h_y, 0, none⟩) :: .pointer (some ⟨OM, 0, none⟩) :: .pointer (some ⟨OO, 0, none⟩) :: OQ :: OT :: .int .i64 s.c.place :: .string (kJ s.hl s.c.tx s.c.place) :: pv2 :: gv2 :: .int .i64 s.c.mode :: .bool s.c.over :: .int .i64 s.c.res :: .bool rn :: OU :: OV :: OW :: OX :: OY :: OZ :: O4 :: O5 :: O6 :: O7 :: O8 :: O9 :: .bool s.given :: .bool s.minus :: .int .i64 s.arg :: .int .i64 s.DL :: .int .i64 s.Z8 :: .int .i64 s.Z9 :: .int .i64 s.qQ :: .bool false :: .int .i64 s.cls :: .int .i64 Va :: .int .i64 Vb :: .bool s.argues :: .bool s.killed :: .bool s.lT :: nw2 :: .bool s.whole :: .bool Vd :: []).toArray 174 (0, 0)) • pF .i64 pv2 (A2.map (·.1)) • yT 1 gv2 A2.length (A2.map (·.2.1)) • uM A2 • Row 189 3 nw2 0 [] • nC [] • qY OM s.c.L s.c.pt s.c.mark • oZ OO s.c.E s.c.at_ • yT 1 OQ (s.hl.length + 1) (strs (qU s.hl)) • Row 9 1 OT (s.hl.length + 1) (strs (yR s.hl s.c.tx)) • kQ h_y s.hl s.base s.most • FT s.inn s.hl s.was [OU, OV, OW, OX, OY, OZ, O4, O5, O6, O7, O8, O9] • F)) mO ?_ ?_
    · rintro _ w4 HJ2
      dsimp only [List.cons_append, List.nil_append]
      refine bM O (jX O O (oq O O (bI 33 aT O ay O (fC aC O (HJ2).get.2 O (dK O (bI 28 aT O ay O (aJ (nX 28 HJ2 ay) ?_)))))))
      rintro _ w5 H5
      refine dK O (bI 29 aT O ay O (aJ (nX 29 H5 ay) ?_))
      rintro _ w6 H6
      refine dK O (bI 30 aT O ay O (aJ (nX 30 H6 ay) ?_))
      rintro _ w7 H7
      refine rP (bM O (dK O (bI 33 aT O ay O (fC aC O (H7).get.2 O (aQ (eF O O) (jr O (fun h3 => ?_) (fun h3 => ?_)))))))
      · (try simp only [Z] at h3)
        have hcT : s.cls = 2 := h3
        obtain ⟨rfl, rfl⟩ := tY.Ut hin (tY.rx.2.2 hin hcT)
        have aeF := H7.drew
        have yu := V.kp (aeF.f12.f12.f12.f12.f12.f12.f12.f12.f12.f12.f12.f12)
        refine uN [5, 9] yu O (gX 0 O yu O (gX 1 O yu O (gX 2 O yu O (jE 3 O yu O (gy 4 O yu 34 aT O ay O (jf 5 O yu (fun W hW => jv aC O ((Kp.h hW)).get.2 O) (gX 6 O yu O (jE 7 O yu O (gy 8 O yu 35 aT O ay O (jf 9 O yu (fun W hW => jv aC O ((Kp.h hW)).get.2 O) (jE 10 O yu O (gy 11 O yu 29 aT O ay O ?_))))))))))))
        refine iH 12 O (by kernel_rfl) (nX 29 aeF ay) ?_
        rintro _ w8 H8
        have VU := V.kp (H8.f12.f12.f12.f12.f12.f12.f12.f12.f12.f12.f12.f12)
        refine iK VU (by kernel_rfl) ?_
        refine jE 13 O VU O (gy 14 O VU 30 aT O ay O ?_)
        refine iH 15 O (by kernel_rfl) (nX 30 H8 ay) ?_
        rintro _ w9 H9
        have VW := V.kp (H9.f12.f12.f12.f12.f12.f12.f12.f12.f12.f12.f12.f12)
        refine iK VW (by kernel_rfl) ?_
        refine pq (aX (aI (bM O (dK O (bI 36 aT O aS O (fC cZ O (H9).get.2 O (aQ (kG O) (jr O (fun h4 => ?_) (fun h4 => ?_)))))))))
        · (try simp only [Z] at h4)
          have haF : ¬ s.argues = true := by simp_all
          refine aB (jX O O (oq O O (bI 25 aT O aS O (aJ (nX 25 H9 aS) ?_))))
          rintro _ w10 pz
          refine dK O (bI 26 aT O aS O (aJ (nX 26 pz aS) ?_))
          rintro _ FM rY
          refine dK O (bI 27 aT O ay O (aJ (nX 27 rY ay) ?_))
          rintro _ w12 vM
          refine iE (kC O (dI results64 O ?_))
          refine ⟨O, ?_⟩
          rw [hon] at hl2
          have hG := tY.good hl2 hp2
          rw [yS] at hG ⊢
          have HX := vM.f12.right.f6.f6.f11.f7.f7.f7.f11.f11.f11.f11.f11
          have Zd := HX.IW (hl := s.hl) (c := s.was) hu1
          have HX3 := Zd.f12.f12.f12.f12.f12.f12.f12.f12.f12.f12.f12
          first | simp only [if_pos hcT] at hG ⊢ | simp only [if_neg hcF] at hG ⊢
          first | simp only [if_pos haT] at hG ⊢ | simp only [if_neg haF] at hG ⊢
          rw [← hrn] at hG ⊢
          exact V.xE hG HX3
        · (try simp only [Z] at h4)
          have haT : s.argues = true := by simp_all
          refine fV (kC O (dI results64 O ?_))
          refine ⟨O, ?_⟩
          rw [hon] at hl2
          have hG := tY.good hl2 hp2
          rw [yS] at hG ⊢
          have HX := H9.f12.right.f6.f6.f11.f7.f7.f7.f11.f11.f11.f11.f11
          have Zd := HX.IW (hl := s.hl) (c := s.was) hu1
          have HX3 := Zd.f12.f12.f12.f12.f12.f12.f12.f12.f12.f12.f12
          first | simp only [if_pos hcT] at hG ⊢ | simp only [if_neg hcF] at hG ⊢
          first | simp only [if_pos haT] at hG ⊢ | simp only [if_neg haF] at hG ⊢
          rw [← hrn] at hG ⊢
          exact V.xE hG HX3
      · (try simp only [Z] at h3)
        have hcF : ¬ s.cls = 2 := h3
        refine fV (aI (bM O (dK O (bI 36 aT O aS O (fC cZ O (H7).get.2 O (aQ (kG O) (jr O (fun h5 => ?_) (fun h5 => ?_))))))))
        · (try simp only [Z] at h5)
          have haF : ¬ s.argues = true := by simp_all
          refine aB (jX O O (oq O O (bI 25 aT O aS O (aJ (nX 25 H7 aS) ?_))))
          rintro _ PD xI
          refine dK O (bI 26 aT O aS O (aJ (nX 26 xI aS) ?_))
          rintro _ Pz yF
          refine dK O (bI 27 aT O ay O (aJ (nX 27 yF ay) ?_))
          rintro _ QI yA
          refine iE (kC O (dI results64 O ?_))
          refine ⟨O, ?_⟩
          rw [hon] at hl2
          have hG := tY.good hl2 hp2
          rw [yS] at hG ⊢
          have HX := yA.f12.right.f6.f6.f11.f7.f7.f7.f11.f11.f11.f11.f11
          have Zd := HX.IW (hl := s.hl) (c := s.was) hu1
          have HX3 := Zd.f12.f12.f12.f12.f12.f12.f12.f12.f12.f12.f12
          first | simp only [if_pos hcT] at hG ⊢ | simp only [if_neg hcF] at hG ⊢
          first | simp only [if_pos haT] at hG ⊢ | simp only [if_neg haF] at hG ⊢
          rw [← hrn] at hG ⊢
          exact V.xE hG HX3
        · (try simp only [Z] at h5)
          have haT : s.argues = true := by simp_all
          refine fV (kC O (dI results64 O ?_))
          refine ⟨O, ?_⟩
          rw [hon] at hl2
          have hG := tY.good hl2 hp2
          rw [yS] at hG ⊢
          have HX := H7.f12.right.f6.f6.f11.f7.f7.f7.f11.f11.f11.f11.f11
          have Zd := HX.IW (hl := s.hl) (c := s.was) hu1
          have HX3 := Zd.f12.f12.f12.f12.f12.f12.f12.f12.f12.f12.f12
          first | simp only [if_pos hcT] at hG ⊢ | simp only [if_neg hcF] at hG ⊢
          first | simp only [if_pos haT] at hG ⊢ | simp only [if_neg haF] at hG ⊢
          rw [← hrn] at hG ⊢
          exact V.xE hG HX3
    · skip
      refine aB (jX O O (jm O (fun h6 => ?_) (fun h6 => ?_)))
      · (try simp only [Z] at h6)
        refine aY (bJ O (aY (dK O (aY (bI 40 aT O aS O (aY (fC cZ O (HJ).get.2 O (je O O (jm O (fun h7 => ?_) (fun h7 => ?_))))))))))
        · (try simp only [Z] at h7)
          refine aY (bJ O (aY (jm O (fun h8 => ?_) (fun h8 => ?_))))
          · (try simp only [Z] at h8)
            refine bn (bn (bn (bn (bn (aY (je O O (je O O (dK O (bI 1 aT O gV O (bI 11 dO O aS O (aJ (nX 12 HJ aS) ?_)))))))))))
            rintro _ w16 vN
            refine bZ ?_
            refine dD (()) ?_ ?_ ?_
            · exact (Sub.nil _)
            · exact mO
            · (try dsimp only)
              first | done | exact (by first | (rw [show rn = true from by rw [IY]; simp_all; done]; exact vN.f12.f12.f12.f12.f12.f12.f12.f12.f12.f12.f12.f12) | (rw [show rn = false from by rw [IY]; simp_all; done]; exact vN.f12.f12.f12.f12.f12.f12.f12.f12.f12.f12.f12.f12) | (rw [show rn = s.c.run from by rw [IY]; simp_all; done]; exact vN.f12.f12.f12.f12.f12.f12.f12.f12.f12.f12.f12.f12))
          · (try simp only [Z] at h8)
            refine aY (bJ O (aY (dK O (aY (bI 1 aT O gV O (aY (bI 11 dO O aS O (aY (fC cZ O (HJ).get.2 O (aY (fG O O (je O O (dK O (bI 1 aT O gV O (bI 11 dO O aS O (aJ (nX 12 HJ aS) ?_))))))))))))))))
            rintro _ Z5 DF
            refine bZ ?_
            refine dD (()) ?_ ?_ ?_
            · exact (Sub.nil _)
            · exact mO
            · (try dsimp only)
              first | done | exact (by first | (rw [show rn = true from by rw [IY]; simp_all; done]; exact DF.f12.f12.f12.f12.f12.f12.f12.f12.f12.f12.f12.f12) | (rw [show rn = false from by rw [IY]; simp_all; done]; exact DF.f12.f12.f12.f12.f12.f12.f12.f12.f12.f12.f12.f12) | (rw [show rn = s.c.run from by rw [IY]; simp_all; done]; exact DF.f12.f12.f12.f12.f12.f12.f12.f12.f12.f12.f12.f12))
        · (try simp only [Z] at h7)
          refine bn (bn (lH (lH (lH (lH (lH (bn (fG O O (dK O (bI 1 aT O gV O (bI 11 dO O aS O (aJ (nX 12 HJ aS) ?_))))))))))))
          rintro _ w18 DZ
          refine bZ ?_
          refine dD (()) ?_ ?_ ?_
          · exact (Sub.nil _)
          · exact mO
          · (try dsimp only)
            first | done | exact (by first | (rw [show rn = true from by rw [IY]; simp_all; done]; exact DZ.f12.f12.f12.f12.f12.f12.f12.f12.f12.f12.f12.f12) | (rw [show rn = false from by rw [IY]; simp_all; done]; exact DZ.f12.f12.f12.f12.f12.f12.f12.f12.f12.f12.f12.f12) | (rw [show rn = s.c.run from by rw [IY]; simp_all; done]; exact DZ.f12.f12.f12.f12.f12.f12.f12.f12.f12.f12.f12.f12))
      · (try simp only [Z] at h6)
        refine bn (bn (bn (bn (fG O O (bJ O (bn (bn (lH (lH (lH (lH (lH (bn (fG O O (dK O (bI 1 aT O gV O (bI 11 dO O aS O (aJ (nX 12 HJ aS) ?_))))))))))))))))))
        rintro _ w19 Ef
        refine bZ ?_
        refine dD (()) ?_ ?_ ?_
        · exact (Sub.nil _)
        · exact mO
        · (try dsimp only)
          first | done | exact (by first | (rw [show rn = true from by rw [IY]; simp_all; done]; exact Ef.f12.f12.f12.f12.f12.f12.f12.f12.f12.f12.f12.f12) | (rw [show rn = false from by rw [IY]; simp_all; done]; exact Ef.f12.f12.f12.f12.f12.f12.f12.f12.f12.f12.f12.f12) | (rw [show rn = s.c.run from by rw [IY]; simp_all; done]; exact Ef.f12.f12.f12.f12.f12.f12.f12.f12.f12.f12.f12.f12))
  · skip
    refine aB (jX O O (jm O (fun h9 => ?_) (fun h9 => ?_)))
    · (try simp only [Z] at h9)
      refine aY (bJ O (aY (dK O (aY (bI 40 aT O aS O (aY (fC cZ O (H2).get.2 O (je O O (jm O (fun h10 => ?_) (fun h10 => ?_))))))))))
      · (try simp only [Z] at h10)
        refine aY (bJ O (aY (dK O (aY (bI 1 aT O gV O (aY (bI 11 dO O aS O (aY (fC cZ O (H2).get.2 O (je O O (dS O func116 (Dz acn hplA XA afV hxA afW H2.f11.f11.f10.f10.f10.f6) ?_)))))))))))
        rintro _ w20 ⟨akq, akr, A20, aks, afX, ahK, E8⟩
        have EU := afX
        have aco := ahK
        first
          | rw [show s.c.run = on from by rw [UA]; simp_all] at EU
          | rw [show false = on from by rw [UA]; simp_all] at EU
        refine bZ ?_
        refine dD (()) ?_ ?_ ?_
        · exact (Sub.nil _)
        · exact vC
        · (try dsimp only)
          first | done | exact ⟨_, _, _, _, EU, aco, E8.f12.f12.f12.f12.f12.f12.f12.f12.f12.f12.f12.f12⟩
      · (try simp only [Z] at h10)
        refine bn (bn (bn (bn (bn (fG O O (dS O func116 (Dz acn hplA XA afV hxA afW H2.f11.f11.f10.f10.f10.f6) ?_))))))
        rintro _ w21 ⟨akt, aku, A21, akv, afY, ahL, vF⟩
        have EU := afY
        have aco := ahL
        first
          | rw [show s.c.run = on from by rw [UA]; simp_all] at EU
          | rw [show false = on from by rw [UA]; simp_all] at EU
        refine bZ ?_
        refine dD (()) ?_ ?_ ?_
        · exact (Sub.nil _)
        · exact vC
        · (try dsimp only)
          first | done | exact ⟨_, _, _, _, EU, aco, vF.f12.f12.f12.f12.f12.f12.f12.f12.f12.f12.f12.f12⟩
    · (try simp only [Z] at h9)
      refine bn (bn (bn (bn (fG O O (bJ O (bn (bn (bn (bn (bn (fG O O (dS O func116 (Dz acn hplA XA afV hxA afW H2.f11.f11.f10.f10.f10.f6) ?_))))))))))))
      rintro _ w22 ⟨akw, akx, A22, aky, afZ, ahM, KQ⟩
      have EU := afZ
      have aco := ahM
      first
        | rw [show s.c.run = on from by rw [UA]; simp_all] at EU
        | rw [show false = on from by rw [UA]; simp_all] at EU
      refine bZ ?_
      refine dD (()) ?_ ?_ ?_
      · exact (Sub.nil _)
      · exact vC
      · (try dsimp only)
        first | done | exact ⟨_, _, _, _, EU, aco, KQ.f12.f12.f12.f12.f12.f12.f12.f12.f12.f12.f12.f12⟩
theorem Vh (H : V w0 w (sH y s • F)) : iQ prog 64 #[.pointer (some ⟨y, 0, none⟩), .int .i64 x] w fun v w' => v = .int .i64 (s.Cj x) ∧ V w0 w' (sH y (s.lD x) • F) := by
 by_cases hin : s.inn = true
 ·by_cases hx : x = 0
  ·subst hx
   rw [show s.lD 0 = s.kU from by unfold bF.lD; rw [if_pos hin, if_pos rfl], show s.Cj 0 = 0 from by unfold bF.Cj; rw [if_pos hin]]
   exact Sj hin H
  ·rw [(Fp hin hx).1, (Fp hin hx).2]
   exact Vg hin hx H
 ·have hin' : s.inn = false := by simpa using hin
  rw [show s.lD x = s from by unfold bF.lD; rw [if_neg hin], show s.Cj x = 1 from by unfold bF.Cj; rw [if_neg hin]]
  refine qc func64 ntmps64 ?_
  refine ku O (aI (aI ?_))
  obtain ⟨h_y, OM, OO, OQ, OT, ZO, ZP, A_y, ZQ, ZR, Va, Vb, Vd, OU, OV, OW, OX, OY, OZ, O4, O5, O6, O7, O8, O9, tY, GX, y5⟩ := (H).U8
  refine aB (oq O O (bI 32 aT O aS O (fC cZ O (y5).get.2 O (aQ (kG O) (jr O (fun h1 => ?_) (fun h => by exfalso; (try simp only [Z] at h); simp [hin'] at h))))))
  (try simp only [Z] at h1)
  refine kC O (aA (dI results64 O ?_))
  have V6 := y5.f12.f12.f12.f12.f12.f12.f12.f12.f12.f12.f12.f12
  have XQ := V.xE (s := s) tY V6
  exact ⟨O, XQ⟩
end
end Go.Proofs.YtpdeedplgmbopaaGreatDoor
end
