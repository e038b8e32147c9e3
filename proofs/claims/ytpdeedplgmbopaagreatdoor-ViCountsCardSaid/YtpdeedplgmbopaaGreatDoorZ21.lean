import Derived.Test.YtpdeedplgmbopaaGreatDoorZ4
import Derived.Test.YtpdeedplgmbopaaGreatDoorZ20
set_option linter.unusedSimpArgs false
set_option linter.unusedVariables false
/- Texts of mine, joined, their names in short: REdB REdR REdT REdF REdE. -/
section
namespace Go.Proofs.YtpdeedplgmbopaaGreatDoor
open Go.RowKit
open _root_.Go.Proofs.Tryz
section
variable {w0 w : World} {F : HP} {p y h : Nat} {L : List Int} {pt mk n : Int} {E : List (List Int)} {place : Nat} {s : bC} {l : List Int} {v wv nv : Value} {m : Nat} {xs ys : List Value}
theorem PW (H : V w0 w (pV p L pt mk • F)) : iI prog 152 #[.pointer (some ⟨p, 0, none⟩)] w fun v w' => ∃ q, v = .pointer (some ⟨q, 0, none⟩) ∧ V w0 w' (pV q L pt mk • pV p L pt mk • F) := by
 refine jr func152 ntmps152 ?_
 refine jR O (aO ?_)
 obtain ⟨ahU, ahV, ae5, ae6, ae7, ahW, ahX, agB⟩ := (H).ref
 refine aC (vY O ?_)
 have UE := agB.drew
 have nR := V.kp (UE.f2.f2)
 refine y9 [4, 9, 13] nR O (iU 0 O nR O (iU 1 O nR O (jY 2 O nR O (iq 3 O nR 0 underlying222 O dh O (jQ 4 O nR (fun W hW => kF aj O ((Kp.h hW)).get.2 O) (iU 6 O nR O (jY 7 O nR O (iq 8 O nR 1 underlying222 O ay O (jQ 9 O nR (fun W hW => kF aH O ((Kp.h hW)).get.2 O) (iU 10 O nR O (jY 11 O nR O (iq 12 O nR 2 underlying222 O ay O (jQ 13 O nR (fun W hW => kF aH O ((Kp.h hW)).get.2 O) (nD 5 O (nG (l := []) (UE.jw none) ((UE.f2).aQ) aj Z7 O O (by first | omega | (simp only [List.length_append, List.length_nil, List.length_cons]; omega) | (simp; omega)) (by first | omega | (simp only [List.length_append, List.length_nil, List.length_cons]; omega) | (simp; omega))) ?_))))))))))))))
 rintro l2 w2 H2
 try simp only [List.nil_append] at H2
 have Am := V.kp (H2.f3.f3.f3)
 refine eG Am (fun W hW => (Kp.h hW).right.f2.f2) ?_
 refine jB 14 O Am (fun _ => eP (zl := [.slice none 0 0, .int .i64 0, .int .i64 0]) (pl := [(0, 1), (1, 1), (2, 1)]) [_, _, _] underlying222 zeroValue222 O (fun w => by kernel_rfl) O (.one (Rd.one ((H2).aQ)) (.on (.on .nil))) O) ?_
 refine nD 15 O (jH (l := [_, _, _]) H2 O O) ?_
 rintro _ w3 ⟨b3, rfl, H3⟩
 have Bv := V.kp (H3.f4.f4.f4.f4)
 refine gU Bv (by kernel_rfl) ?_
 refine jB 16 O Bv (fun _ => dR O) (ru (aW (nO (dK results152 O ?_))))
 have Ho5 := H3.f4.f4
 have Hc6 := V.U3 ae5 ae6 ae7 Ho5
 exact ⟨_, O, V.U3 ae5 ae6 ae7 Hc6.f3.f3⟩
theorem LK (H : V w0 w (nV p E place • F)) (hE : E.length ≤ 60 ∧ (place < E.length ∨ place = 0) ∧ ∀ e ∈ E, e.length ≤ 1024) : iI prog 153 #[.pointer (some ⟨p, 0, none⟩)] w fun v w' => ∃ q, v = .pointer (some ⟨q, 0, none⟩) ∧ V w0 w' (nV q E place • nV p E place • F) := by
 obtain ⟨u, HR⟩ := H.ae0
 obtain ⟨us, HR⟩ := HR.swap.ll
 obtain ⟨au, cu, rfl, -⟩ := (HR.aQ).form
 have hE1 : E.length ≤ 60 := hE.1
 have hE2 : ∀ k, (E.getD k []).length ≤ 1024 := ZB hE.2.2
 refine jr func153 ntmps153 ?_
 refine jR O (jR O (aO (jR O (aY ?_))))
 refine gV [(0, _)] (fun (⟨k, z⟩ : Nat × Value) => [(3, z), (4, .int .i64 (k : Int))]) (fun (⟨k, z⟩ : Nat × Value) W => k ≤ E.length ∧ ∃ zs, V w0 W (Row 22 1 z k zs • Cj .i32 zs (E.take k) • Row 22 1 (.slice au E.length cu) E.length us • Cj .i32 us E • dW p (.cells #[.slice au E.length cu, .int .i64 place] 176 (0, 0)) • F)) (fun (⟨k, z⟩ : Nat × Value) => E.length - k) ((0, .slice none 0 0)) mG ug ⟨by omega, [], (HR.f3.f3.f3).Qx.jw none⟩ ?_
 rintro ⟨k, z⟩ w1 ⟨hk, zs, HL⟩
 dsimp only [List.cons_append, List.nil_append]
 obtain ⟨az, cz, rfl, -⟩ := (HL.aQ).form
 refine aO (bT O (nK O O (bJ 0 underlying176 O sizeOf47 O (fV iC O (HL.f5).get.2 O (Z (kH ((HL.f3).aQ) iC O) (Z (gB O O) (jL O (fun h1 => ?_) (fun h1 => ?_))))))))
 ·(try simp only [aA] at h1)
  refine gQ (aO (aY ?_))
  have hkl : k < E.length := by omega
  have hek := hE2 k
  refine aC (jO O O (dL O (bJ 0 underlying176 O sizeOf47 O (fV iC O (HL.f5).get.2 O (bP O ?_)))))
  obtain ⟨bu, ou, cu, eu⟩ := Rd.rG ((HL.f3).aQ) (by omega)
  cases eu
  refine Z (dP iC dh O O (by omega)) ?_
  refine Z (fG (dA aj O) O (by first | exact Rd.mZ ((HL.f3).aQ) (by omega) | exact Rd.yA ((HL.f3).aQ) (by omega) | exact Rd.xX ((HL.f3).aQ) (by omega))) ?_
  refine acm (fun ahf adk => ?_)
  refine dS O func181 (XH HL (fun W HW => (by rw [adk]; exact (HW.f4).aaN (by omega))) (by omega)) ?_
  rintro u3 w3 H3
  have Hf4 := H3.lM
  refine jV (kZ (vs := [_]) Hf4 iC dh zeroValue22 O O O (by decide) (aX (by first | rfl | exact Rd.one ((Hf4).kN)) bQ)) ?_
  rintro l5 w5 H5
  refine jV (iw H5.f3 iC ab7 O O O ((H5).aQ) (aX (by first | rfl | exact Rd.one ((H5.f2).kN)) bQ) (by omega) (by omega)) ?_
  rintro l6 w6 H6
  have Hd7 := H6.f2.right
  refine iJ O (bY (aK (aW (aC (bP O (Z (fO O O (by omega)) (iJ O (bY ?_))))))))
  have HS := (Hd7.f6.f6.f6.f4.f5.f6).WR.f2
  refine dU ((k + 1, l6)) ?_ ?_ ?_ ?_
  ·exact ug
  ·exact mG
  ·(try dsimp only)
   first | done | exact ⟨by omega, _, by rw [LH (d := []) hkl]; exact HS⟩
  ·(try dsimp only); omega
 ·(try simp only [aA] at h1)
  refine dO (aN (aN (bn (aW (bT O (nK O O (bJ 1 underlying176 O ay O (fV aH O (HL.f5).get.2 O ?_))))))))
  refine Z (eP (zl := [.slice none 0 0, .int .i64 0]) (pl := [(0, 1), (1, 1)]) [_, _] underlying176 zeroValue176 O (fun w => by kernel_rfl) O (.one (Rd.one ((HL).aQ)) (.on .nil)) O) ?_
  refine jV (jH (l := [_, _]) HL O O) ?_
  rintro _ w8 ⟨b8, rfl, H8⟩
  refine fC O (dK results153 O ?_)
  have HL2 := V.Yz (H8.f6.f6.f6.f4.f6.f6)
  rw [List.take_of_length_le (by omega)] at HL2
  have HL3 := V.LG HL2.f2
  exact ⟨_, O, (V.LG (V.Yz HL3.f3.f3).f3).f2⟩
theorem LM {x : Int} (H : V w0 w (dW p (.cells #[wv, nv, .int .i64 x] 166 (0, 0)) • Row 9 1 nv m ys • xM 1 wv m xs • F)) (hy : ∀ u ∈ ys, u.oneCell' = true) (hm : m ≤ 4097) : iI prog 154 #[.pointer (some ⟨p, 0, none⟩)] w fun v w' => ∃ q nv', v = .pointer (some ⟨q, 0, none⟩) ∧
  V w0 w' (dW q (.cells #[wv, nv', .int .i64 x] 166 (0, 0)) • Row 9 1 nv' m ys • dW p (.cells #[wv, nv, .int .i64 x] 166 (0, 0)) • Row 9 1 nv m ys • xM 1 wv m xs • F) := by
 refine jr func154 ntmps154 ?_
 refine jR O (aO ?_)
 have Uj := H.drew
 have nZ := V.kp (Uj.f3.f3.f3)
 refine y9 [3, 7, 12] nZ O (iU 0 O nZ O (jY 1 O nZ O (iq 2 O nZ 0 iG O pO O (jQ 3 O nZ (fun W hW => kF jo O ((Kp.h hW)).get.2 O) (iU 4 O nZ O (jY 5 O nZ O (iq 6 O nZ 1 iG O pO O (jQ 7 O nZ (fun W hW => kF jo O ((Kp.h hW)).get.2 O) (iU 9 O nZ O (jY 10 O nZ O (iq 11 O nZ 2 iG O ay O (jQ 12 O nZ (fun W hW => kF aH O ((Kp.h hW)).get.2 O) (nD 8 O (iw (Uj.jw none) jo aa5 O O O ((Uj.f2).aQ) (by assumption) (by omega) (by omega)) ?_)))))))))))))
 rintro l1 w1 H1
 have ae8 := V.kp (H1.f4.f4.f4.f4)
 refine eG ae8 (fun W hW => (Kp.h hW).right.f3.f3.f3) ?_
 refine jB 13 O ae8 (fun _ => eP (zl := [.slice none 0 0, .slice none 0 0, .int .i64 0]) (pl := [(0, 1), (1, 1), (2, 1)]) [_, _, _] iG zeroValue166 O (fun w => by kernel_rfl) O (.one (Rd.one ((H1.f4).qM)) (.one (Rd.one ((H1).aQ)) (.on .nil))) O) ?_
 refine nD 14 O (jH (l := [_, _, _]) H1 O O) ?_
 rintro _ w2 ⟨b2, rfl, H2⟩
 have Am := V.kp (H2.f5.f5.f5.f5.f5)
 refine gU Am (by kernel_rfl) ?_
 refine jB 15 O Am (fun _ => dR O) (ru (aW (nO (dK results154 O ?_))))
 have HQ := H2.f5.f5.f5.f5.f5
 simp only [Nat.zero_add, List.nil_append] at HQ
 exact ⟨_, _, O, HQ⟩
theorem SC {pb pk : Nat} {pv gv : Value} {x md rs : Int} {t : ByteArray} {ov rn : Bool} (H : V w0 w (pV pb L pt mk • nV pk E place • Row 9 1 nv m ys • xM 1 wv m xs • F)) (hE : E.length ≤ 60 ∧ (place < E.length ∨ place = 0) ∧ ∀ e ∈ E, e.length ≤ 1024) (hy : ∀ u ∈ ys, u.oneCell' = true) (hm : m ≤ 4097) (o1 : pv.oneCell' = true) (o2 : gv.oneCell' = true) :
  iI prog 115 #[.agg #[.pointer (some ⟨pb, 0, none⟩), .pointer (some ⟨pk, 0, none⟩), wv, nv, .int .i64 x, .string t, pv, gv, .int .i64 md, .bool ov, .int .i64 rs, .bool rn]] w fun v w' => ∃ qb qk nv',
   v = .agg #[.pointer (some ⟨qb, 0, none⟩), .pointer (some ⟨qk, 0, none⟩), wv, nv', .int .i64 x, .string t, pv, gv, .int .i64 md, .bool ov, .int .i64 rs, .bool rn] ∧
   V w0 w' (pV qb L pt mk • nV qk E place • Row 9 1 nv' m ys • pV pb L pt mk • nV pk E place • Row 9 1 nv m ys • xM 1 wv m xs • F) := by
 refine jr func115 ntmps115 ?_
 refine iV (jV (jH (l := [_, _, _, _, _, _, _, _, _, _, _, _]) H O O) ?_)
 rintro _ w1 ⟨b1, rfl, H1⟩
 refine jV (iy (l := [_, _, _, _, _, _, _, _, _, _, _, _]) H1 zeroValue172 O) ?_
 rintro _ w2 ⟨b2, rfl, H2⟩
 refine zk7 (bJ 0 dI O sizeOf163 O (fV underlying163 O (H2.f2).get.2 O (dS O func152 (PW H2.f3) ?_)))
 rintro _ w3 ⟨q3, rfl, H3⟩
 refine bJ 0 dI O sizeOf163 O (aI (fU 0 (l' := [_, _, _, _, _, _, _, _, _, _, _, _]) H3.f4 sizeOf163 O O (by first | rfl | assumption) O O) ?_)
 rintro _ w4 H4
 refine zk7 (bJ 1 dI O sizeOf164 O (fV underlying164 O (H4).get.2 O (dS O func153 (LK H4.f5 (by assumption)) ?_)))
 rintro _ w5 ⟨q5, rfl, H5⟩
 refine bJ 1 dI O sizeOf164 O (aI (fU 1 (l' := [_, _, _, _, _, _, _, _, _, _, _, _]) H5.f3 sizeOf164 O O (by first | rfl | assumption) O O) ?_)
 rintro _ w6 H6
 refine zk7 (bJ 2 dI O pq O (Z (pX 2 (xs := [_, _, _]) iG O pq O O (H6).get.2 O) (jV (iy (l := [_, _, _]) H6 zeroValue166 O) ?_)))
 rintro _ w7 ⟨b7, rfl, H7⟩
 refine aI (dw 0 (l' := [_, _, _]) (us := [_, _, _]) H7 pq O O O (aX (by first | rfl | exact Rd.one ((H7.f9).qM)) (aX (by first | rfl | exact Rd.one ((H7.f8).aQ)) (aG bQ))) O O) ?_
 rintro _ w8 H8
 refine zk7 (dS O func154 (LM H8.f9.f9.f3 (by assumption) (by omega)) ?_)
 rintro _ w9 ⟨q9, nv9, rfl, H9⟩
 refine dL O (Z (dM iG O pq O O (H9).get.2) (bJ 2 dI O pq O (aI (dw 2 (l' := [_, _, _, _, _, _, _, _, _, _, _, _]) (us := [_, _, _]) H9.f6 pq O O O (aX (by first | rfl | exact Rd.one ((H9.f5).qM)) (aX (by first | rfl | exact Rd.one ((H9.f2).aQ)) (aG bQ))) O O) ?_)))
 rintro _ w10 pW
 refine zk7 (Z (dM dI O fH O O (pW).get.2) (aI (dw 0 (l' := [_, _, _, _, _, _, _, _, _, _, _, _]) (us := [_, _, _, _, _, _, _, _, _, _, _, _]) pW.f11 fH O O O (aG (aG (aX (by first | rfl | exact Rd.one ((pW.f6).qM)) (aX (by first | rfl | exact Rd.one ((pW.f3).aQ)) (aG (aG (aG (aG (aG (aG (aG (aG bQ)))))))))))) O O) ?_))
 rintro _ FX sW
 refine zkc ?_
 refine rD (.inl O) (Oy results115 O dI O (by rw [adl]; rfl) (sW).get.2) ?_
 exact ⟨_, _, _, O, sW.right.right.right.f2.right.f3.f3.f5.f7.f5.f6.f7⟩
theorem V.abx {k : IntKind} (H : V w0 w (oI k v l • F)) : V w0 w (oI k v l • oI k v l • F) := H.vw
theorem V.aby {A : List LE} (H : V w0 w (sU A • F)) : V w0 w (sU A • sU A • F) := H.vw
theorem V.Wh {h pb pk : Nat} {wv nv pv gv : Value} {A : List LE} {yf yt : Int} {ch : Bool} {u0 u1 u2 u3 u4 u5 u6 u7 u8 u9 ua ub : Value} (h1 : iH s [] A yf yt) (H : V w0 w (dW y (.cells (.pointer (some ⟨h, 0, none⟩) :: .pointer (some ⟨pb, 0, none⟩) :: .pointer (some ⟨pk, 0, none⟩) :: wv :: nv :: .int .i64 s.c.place :: .string (jC s.hl s.c.tx s.c.place) :: pv :: gv :: .int .i64 s.c.mode :: .bool s.c.over :: .int .i64 s.c.res :: .bool s.c.run :: u0 :: u1 :: u2 :: u3 :: u4 :: u5 :: u6 :: u7 :: u8 :: u9 :: ua :: ub :: .bool s.given :: .bool s.minus :: .int .i64 s.arg :: .int .i64 s.zT :: .int .i64 s.VA :: .int .i64 s.VB :: .int .i64 s.qW :: .bool s.inn :: .int .i64 s.cls :: .int .i64 yf :: .int .i64 yt :: .bool s.argues :: .bool s.kT :: .bool s.kU :: .slice none 0 0 :: .bool s.whole :: .bool ch :: []).toArray 174 (0, 0)) • pV pb s.c.L s.c.pt s.c.mark • nV pk s.c.E s.c.at_ • xM 1 wv (s.hl.length + 1) (strs (pK s.hl)) • Row 9 1 nv (s.hl.length + 1) (strs (xJ s.hl s.c.tx)) • oI .i64 pv (A.map (·.1)) • xM 1 gv A.length (A.map (·.2.1)) • sU A • jX h s.hl s.base s.most • ED s.inn s.hl s.was [u0, u1, u2, u3, u4, u5, u6, u7, u8, u9, ua, ub] • F)) : V w0 w (qU y s • F) := by
  refine V.vX (y := y) (h := h) (pb := pb) (pk := pk) (wv := wv) (nv := nv) (pv := pv) (gv := gv) (ch := ch) (u0 := u0) (u1 := u1) (u2 := u2) (u3 := u3) (u4 := u4) (u5 := u5) (u6 := u6) (u7 := u7) (u8 := u8) (u9 := u9) (ua := ua) (ub := ub) (nw := .slice none 0 0) (es := []) h1 ?_
  rw [← h1.says]
  exact (H.tY none).of_eq (by unfold LX; simp only [List.length_nil, List.flatMap_nil, List.map_nil]; ac_rfl)
theorem V.Wi {h pb pk : Nat} {wv nv pv gv : Value} {A : List LE} {yf yt : Int} {ch : Bool} {u0 u1 u2 u3 u4 u5 u6 u7 u8 u9 ua ub : Value} (h1 : iH s [] A yf yt) (hi : s.inn = false) (H : V w0 w (dW y (.cells (.pointer (some ⟨h, 0, none⟩) :: .pointer (some ⟨pb, 0, none⟩) :: .pointer (some ⟨pk, 0, none⟩) :: wv :: nv :: .int .i64 s.c.place :: .string (jC s.hl s.c.tx s.c.place) :: pv :: gv :: .int .i64 s.c.mode :: .bool s.c.over :: .int .i64 s.c.res :: .bool s.c.run :: u0 :: u1 :: u2 :: u3 :: u4 :: u5 :: u6 :: u7 :: u8 :: u9 :: ua :: ub :: .bool s.given :: .bool s.minus :: .int .i64 s.arg :: .int .i64 s.zT :: .int .i64 s.VA :: .int .i64 s.VB :: .int .i64 s.qW :: .bool false :: .int .i64 s.cls :: .int .i64 yf :: .int .i64 yt :: .bool s.argues :: .bool s.kT :: .bool s.kU :: .slice none 0 0 :: .bool s.whole :: .bool ch :: []).toArray 174 (0, 0)) • pV pb s.c.L s.c.pt s.c.mark • nV pk s.c.E s.c.at_ • xM 1 wv (s.hl.length + 1) (strs (pK s.hl)) • Row 9 1 nv (s.hl.length + 1) (strs (xJ s.hl s.c.tx)) • oI .i64 pv (A.map (·.1)) • xM 1 gv A.length (A.map (·.2.1)) • sU A • jX h s.hl s.base s.most • F)) (hu : ([u0, u1, u2, u3, u4, u5, u6, u7, u8, u9, ua, ub].all fun x => x.oneCell') = true) : V w0 w (qU y s • F) := by
  refine V.Wh (y := y) (h := h) (pb := pb) (pk := pk) (wv := wv) (nv := nv) (pv := pv) (gv := gv) (ch := ch) (u0 := u0) (u1 := u1) (u2 := u2) (u3 := u3) (u4 := u4) (u5 := u5) (u6 := u6) (u7 := u7) (u8 := u8) (u9 := u9) (ua := ua) (ub := ub) h1 ?_
  rw [hi]
  exact (H.G6 (hl := s.hl) (c := s.was) (u := [u0, u1, u2, u3, u4, u5, u6, u7, u8, u9, ua, ub]) hu).of_eq (by ac_rfl)
theorem Nr (H : V w0 w (qU y s • F)) : iI prog 61 #[.pointer (some ⟨y, 0, none⟩)] w fun v w' => v = .int .i64 s.BG ∧ V w0 w' (qU y s.aZ • F) := by
 refine jr func61 ntmps61 ?_
 refine jR O (aO (aO ?_))
 obtain ⟨h_y, MQ, MR, MS, MV, XM, XO, A_y, XP, XQ, Sz, SA, SB, MW, MX, MZ, Na, Nb, Nc, Nh, Nj, Nk, Nl, Np, Nq, rW, FT, xU⟩ := (H).Sr
 have hE9 := rW.rx.1.2
 have hy9 := @N8 (xJ s.hl s.c.tx)
 obtain ⟨hv9, hk9, _⟩ := (xU.f9).VU
 have hhl := hk9.1
 have o1 := (xU.f6).kN.one
 have o2 := (xU.f7).qM.one
 refine aC (nK O O (bJ 32 aS O aP O (fV bZ O (xU).get.2 O (jL O (fun h1 => ?_) (fun h1 => ?_)))))
 ·(try simp only [aA] at h1)
  have hin := h1
  refine jP O (aB (dK results61 O ?_))
  have WU := xU.f12.f12.f12.f12.f12.f12.f12.f12.f12.f12.f12.f12
  have Vt := V.vX (s := s) rW WU
  exact ⟨by unfold bC.BG; rw [if_pos hin], by rw [KN hin]; exact Vt⟩
 ·(try simp only [aA] at h1)
  have hin := h1
  refine gQ (bT O (dL O (bJ 32 aS O aP O (aI (mP 32 xU aP) ?_))))
  rintro _ w5 H5
  refine rZ O (nK O O (bJ 1 aS O fH O (Z (pX 1 (xs := [_, _, _, _, _, _, _, _, _, _, _, _]) dI O fH O O (H5).get.2 O) (dS O func115 (SC H5.f4.f5.f5.f5 (by assumption) (by assumption) (by omega) (by assumption) (by assumption)) ?_))))
  rintro _ w6 ⟨qb6, qk6, nv6, rfl, H6⟩
  refine dL O (bJ 13 aS O fH O (aI (dw 13 (l' := [_, _, _, _, _, _, _, _, _, _, _, _, _, _, _, _, _, _, _, _, _, _, _, _, _, _, _, _, _, _, _, _, _, _, _, _, _, _, _, _, _, _]) (us := [_, _, _, _, _, _, _, _, _, _, _, _]) H6.f8 fH O O O (aG (aG (aX (by first | rfl | exact Rd.one ((H6.f7).qM)) (aX (by first | rfl | exact Rd.one ((H6.f3).aQ)) (aG (aG (aX (by first | rfl | exact Rd.one ((H6.f9).kN)) (aX (by first | rfl | exact Rd.one ((H6.f10).qM)) (aG (aG (aG (aG bQ)))))))))))) O O) ?_))
  rintro _ w7 H7
  refine rZ O (jO O O (dL O (bJ 33 aS O ay O (aI (mP 33 H7 ay) ?_))))
  rintro _ w8 H8
  refine dL O (bJ 34 aS O ay O (aI (mP 34 H8 ay) ?_))
  rintro _ w9 H9
  refine dL O (bJ 35 aS O ay O (aI (mP 35 H9 ay) ?_))
  rintro _ w10 pW
  refine rZ O (jO O O (jO O O (dL O (bJ 36 aS O aP O (aI (mP 36 pW aP) ?_)))))
  rintro _ FX sW
  refine dL O (bJ 37 aS O aP O (aI (mP 37 sW aP) ?_))
  rintro _ w12 wL
  refine dL O (bJ 38 aS O aP O (aI (mP 38 wL aP) ?_))
  rintro _ Qs xZ
  refine dL O (bJ 40 aS O aP O (aI (mP 40 xZ aP) ?_))
  rintro _ P6 Az
  refine dL O (bJ 41 aS O aP O (aI (mP 41 Az aP) ?_))
  rintro _ Qu zI
  refine rZ O (dL O (bJ 39 aS O bM O (aI (mP 39 zI bM) ?_)))
  rintro _ w16 uY
  refine iL (jP O (dK results61 O ?_))
  have hin' : s.inn = false := by simpa using hin
  have Uf := uY.f8
  have Ug := Uf.ZY
  have agC := Ug.f10
  have agD := agC.abx
  have ada := agD.f12
  have adb := ada.ZY
  have Zx := adb.f14
  have Zy := Zx.aby
  have adn := Zy.f2.f4.f6.f12.f9.f12.f12
  have ado := V.abw (c := s.c) rW.FY rW.placed adn
  have HX := ado.f11.right.f11.right.f11.right.f10.f3.f4.f5.f10.f7.f10.f10.f10
  rw [show s.zT = s.c.last from if_neg (by simp [hin']), show s.VA = s.c.fr from if_neg (by simp [hin']), show s.VB = s.c.to from if_neg (by simp [hin'])] at HX
  exact ⟨by unfold bC.BG; rw [if_neg (by simp [hin'])], by rw [uH hin']; exact V.Wh (uH hin' ▸ rW.begin hin') HX⟩
end
end Go.Proofs.YtpdeedplgmbopaaGreatDoor
end
section
namespace Go.Proofs.YtpdeedplgmbopaaGreatDoor
open Go.RowKit
section
variable {w0 w : World} {F : HP} {p y h : Nat} {s : bC} {l dl il : List Int} {v d i : Value} {a x j k : Int}
end
section
variable {w0 w : World} {F : HP} {p y h : Nat} {s : bC} {l : List Int} {v : Value} {j k : Int}
theorem iH.cls {es : List eF} {A : List LE} {yf yt : Int} (h : iH s es A yf yt) (c : Int) (hc : c ≠ 2) : iH { s with cls := c } es A yf yt :=
  ⟨h.ok, ⟨h.rx.1, h.rx.2.1, fun _ h2 => absurd h2 hc⟩, h.says, h.FY, h.placed, h.MI⟩
end
end Go.Proofs.YtpdeedplgmbopaaGreatDoor
end
section
namespace Go.Proofs.YtpdeedplgmbopaaGreatDoor
open Go.RowKit
open _root_.Go.Proofs.Tryz
theorem Ey.one {I : Hp} {sz n : Nat} {v : Value} {xs : List Value} (h : Ey I sz v n xs) : v.oneCell' = true := by obtain ⟨_, a, c, rfl, _⟩ := h; rfl
section
variable {w0 w : World} {F : HP} {p y h : Nat} {s : bC} {u v lv : Value} {es les : List eF} {gs : List (Value × List eF)} {on : Bool}
theorem V.aad (H : V w0 w (pJ gs • F)) : ∀ x ∈ gs.map (·.1), x.oneCell' = true := by
  obtain ⟨I, h, hI⟩ := H.tX
  intro x hx
  obtain ⟨g, hg, rfl⟩ := List.mem_map.1 hx
  obtain ⟨k, hk, rfl⟩ := List.getElem_of_mem hg
  have := h k hk
  rw [List.getD_eq_getElem?_getD, List.getElem?_eq_getElem hk] at this
  exact this.1.one
theorem V.abz (H : V w0 w (EJ v es • F)) : V w0 w (lU es • EJ v es • F) := H.vw.FV (qI (fun I h => h.2) _)
theorem aae {α : Type _} (l : List α) (u : α) (h : l ≠ []) : l.set (l.length - 1) u = l.dropLast ++ [u] := by
  have e := List.dropLast_concat_getLast h
  have hl : l.dropLast.length = l.length - 1 := List.length_dropLast
  conv => lhs; rw [← e]
  rw [List.set_append_right _ _ (by simp)]
  simp
theorem V.XR (hg : gs ≠ []) (H : V w0 w (Row 80 1 v gs.length ((gs.map (·.1)).set (gs.length - 1) u) • EJ u es • pJ gs • F)) : V w0 w (glK v (gs.dropLast ++ [(u, es)]) • F) := by
  have h0 : 0 < gs.length := List.length_pos_iff.2 hg
  have H1 := (H.f3).Qz (gs.length - 1)
  rw [← List.dropLast_eq_take] at H1
  have hm : (gs.map (·.1)).set (gs.length - 1) u = gs.dropLast.map (·.1) ++ [u] := by
    have := aae (gs.map (·.1)) u (by simpa using hg)
    rw [List.length_map] at this
    rw [this, List.map_dropLast]
  have hl : gs.length = gs.dropLast.length + 1 := by rw [List.length_dropLast]; omega
  rw [hm, hl] at H1
  exact (V.uz (H1.f2.f3.f2)).DZ
theorem Om (gs : List (Value × List eF)) (x : Value × List eF) : DY (gs ++ [x]) = DY gs ++ [x.2.map eF.says] := by unfold DY; rw [List.map_append]; rfl
theorem SE (hG : DY gs = s.here) (hne : gs ≠ []) (hl : gs.getD (gs.length - 1) default = (lv, les)) (hes : es.map eF.says = s.put) (hp : s.put ≠ []) : DY (gs.dropLast ++ [(u, les ++ es)]) = s.jf true := by
  have h0 : s.here ≠ [] := by rw [← hG]; unfold DY; simpa using hne
  have h1 : s.here.getLast h0 = les.map eF.says := by
    have e : s.here.getLast? = some (les.map eF.says) := by
      rw [← hG]; unfold DY
      rw [List.getLast?_map, List.getLast?_eq_getElem?]
      rw [List.getD_eq_getElem?_getD, List.getElem?_eq_getElem (by have := List.length_pos_iff.2 hne; omega)] at hl
      rw [List.getElem?_eq_getElem (by have := List.length_pos_iff.2 hne; omega)]
      simp only [Option.getD_some] at hl
      rw [hl]; rfl
    rw [List.getLast?_eq_some_getLast h0] at e
    exact Option.some.inj e
  unfold bC.jf
  rw [if_neg hp, if_pos rfl, List.getLast?_eq_some_getLast h0, Om]
  have h2 : DY gs.dropLast = s.here.dropLast := by rw [← hG]; unfold DY; rw [List.map_dropLast]
  rw [h1, h2]
  show _ ++ [(les ++ es).map eF.says] = _
  rw [List.map_append, hes]
theorem LP (hG : DY gs = s.here) (hes : es.map eF.says = s.put) (hp : s.put ≠ []) (h : ¬ (on = true ∧ 0 < gs.length)) : DY (gs ++ [(u, es)]) = s.jf on := by
  unfold bC.jf
  rw [if_neg hp, Om, hG]
  show s.here ++ [es.map eF.says] = _
  rw [hes]
  cases on with
  | false => rw [if_neg (by decide)]
  | true =>
    have h0 : s.here = [] := by
      have : gs = [] := List.eq_nil_of_length_eq_zero (by by_cases hx : 0 < gs.length; exact absurd ⟨rfl, hx⟩ h; omega)
      rw [← hG, this]; rfl
    rw [if_pos rfl, h0]; rfl
theorem BU {x0 x1 x2 x3 x4 x6 x9 x10 x11 x12 xY x14 x15 x16 x17 x18 x19 x20 x21 yT x23 x24 x25 zf x27 x28 x29 x30 x31 x32 zO x34 Qi Qj Qk x38 x40 x41 : Value} {pv gv nw : Value} {A : List LE} (hA : FY A = s.c.un) (hP : xR s.hl A) (hS : es.map eF.says = s.put) (hok : lI s) (hx : GZ s.c) (hhl : s.hl.length ≤ 4096)
  (H : V w0 w (dW y (.cells (x0 :: x1 :: x2 :: x3 :: x4 :: .int .i64 s.c.place :: x6 :: pv :: gv :: x9 :: x10 :: x11 :: x12 :: xY :: x14 :: x15 :: x16 :: x17 :: x18 :: x19 :: x20 :: x21 :: yT :: x23 :: x24 :: x25 :: zf :: x27 :: x28 :: x29 :: x30 :: x31 :: x32 :: zO :: x34 :: Qi :: Qj :: Qk :: x38 :: nw :: x40 :: x41 :: []).toArray 174 (0, 0)) • oI .i64 pv (A.map (·.1)) • xM 1 gv A.length (A.map (·.2.1)) • sU A • Row 189 3 nw es.length (es.flatMap eF.enc) • lU es • F)) :
  iI prog 116 #[.pointer (some ⟨y, 0, none⟩), .bool on] w fun _ w' => ∃ pv' gv' A' nw', FY A' = (s.fM on).c.un ∧ xR s.hl A' ∧
   V w0 w' (dW y (.cells (x0 :: x1 :: x2 :: x3 :: x4 :: .int .i64 s.c.place :: x6 :: pv' :: gv' :: x9 :: x10 :: x11 :: x12 :: xY :: x14 :: x15 :: x16 :: x17 :: x18 :: x19 :: x20 :: x21 :: yT :: x23 :: x24 :: x25 :: zf :: x27 :: x28 :: x29 :: x30 :: x31 :: x32 :: zO :: x34 :: Qi :: Qj :: Qk :: x38 :: nw' :: x40 :: x41 :: []).toArray 174 (0, 0)) • oI .i64 pv' (A'.map (·.1)) • xM 1 gv' A'.length (A'.map (·.2.1)) • sU A' • Row 189 3 nw' 0 [] • lU [] • F) := by
 have ahY := XL hx
 have hput := hok.2.2.2.2.1
 have hsp := oU s.here s.put
 have hpl := U1 hP (by omega)
 have hlp : es.length = s.put.length := by rw [← hS]; simp
 refine oN func116 ntmps116 ?_
 refine aO (bT O (dL O (bJ 39 aS O bM O (fV aV O (H).get.2 O (Z (kH ((H.f5).aQ) aV O) (Z (dX O O) (jL O (fun h1 => ?_) (fun h1 => ?_))))))))
 ·(try simp only [aA] at h1)
  have he : es = [] := List.eq_nil_of_length_eq_zero (by omega)
  have hp : s.put = [] := List.eq_nil_of_length_eq_zero (by omega)
  refine nO (aB (we0 results116 ?_))
  subst he
  exact ⟨pv, gv, A, nw, by rw [BM hp]; exact hA, hP, H.f6.f6.f6.f6.f6.f6⟩
 ·(try simp only [aA] at h1)
  have hp : s.put ≠ [] := fun hx => h1 (by rw [hlp, hx]; rfl)
  refine gQ (bT O (dL O (bJ 1 aS O fH O (bJ 2 dI O pq O (bJ 2 iG O ay O (fV aH O (H).get.2 O (fP O (bT O (dL O (bJ 1 aS O fH O (bJ 6 dI O sizeOf170 O (bP O (dS O func155 (U5 H.f4.f4.f4.f4) ?_)))))))))))))
  rintro u1 w1 ⟨gs1, agE, H1⟩
  obtain ⟨gu, rfl⟩ : ∃ q, q = u1 := ⟨_, rfl⟩
  obtain ⟨gs, rfl⟩ : ∃ q, q = gs1 := ⟨_, rfl⟩
  have hG : DY gs = s.here := by rw [agE, hA]; rfl
  have hgl : gs.length = s.here.length := by rw [← hG]; exact (List.length_map _).symm
  have Ho2 := H1.f2.f2
  have Hc3 := Ho2
  have hone := (Hc3.f2).aad
  refine fP O (jR O (bT O (bP O (jV (iw (Hc3.jw none) bI IZ O O O ((Hc3).qM) (by assumption) (by omega) (by omega)) ?_))))
  rintro l4 w4 H4
  have HX4 := H4
  rw [Nat.zero_add, List.nil_append] at HX4
  refine fP O ?_
  refine lu [(0, _), (4, _)] (fun (ou : Value) => [(6, ou)]) (fun (ou : Value) W => ∃ gs, DY gs = s.jf on ∧ V w0 W (xM 1 ou gs.length (gs.map (·.1)) • pJ gs • dW y (.cells (x0 :: x1 :: x2 :: x3 :: x4 :: .int .i64 s.c.place :: x6 :: pv :: gv :: x9 :: x10 :: x11 :: x12 :: xY :: x14 :: x15 :: x16 :: x17 :: x18 :: x19 :: x20 :: x21 :: yT :: x23 :: x24 :: x25 :: zf :: x27 :: x28 :: x29 :: x30 :: x31 :: x32 :: zO :: x34 :: Qi :: Qj :: Qk :: x38 :: nw :: x40 :: x41 :: []).toArray 174 (0, 0)) • oI .i64 pv (A.map (·.1)) • xM 1 gv A.length (A.map (·.2.1)) • sU A • F)) ug ?_ ?_
  ·rintro ou w5 ⟨gs, hG, HJ⟩
   dsimp only [List.cons_append, List.nil_append]
   refine bT O (dL O (bJ 1 aS O fH O (bJ 6 dI O sizeOf170 O (jO O O (dS O func156 (Sv HJ.f2.f2.f6.f6.f6.f6 (by assumption)) ?_)))))
   rintro _ w6 ⟨pv6, gv6, H6⟩
   refine iL (aC (nK O O (bJ 39 aS O bM O (aI (mP 39 H6 bM) ?_))))
   rintro _ w7 H7
   refine bY (lK (.inr O) results116 ?_)
   have HQ := (H7.f4.f4.f4.f4).tY none |>.edL
   refine ⟨_, _, _, _, ?_, U4 hP ⟨hok.1.1, hok.1.2.1⟩, HQ.f6.f6.f6.f6⟩
   rw [nJ hp, abt, hA, hG]; rfl
  ·skip
   refine bT O (jJ O (fun h2 => ?_) (fun h2 => ?_))
   ·(try simp only [aA] at h2)
    refine bg (bP O (bg (Z (kH ((HX4).aQ) bI O) (bg (Z (dY O O) (jh O O (jL O (fun h3 => ?_) (fun h3 => ?_))))))))
    ·(try simp only [aA] at h3)
     refine aO ?_
     have agF : on = true := by first | assumption | (simp_all; done)
     have hne : gs ≠ [] := fun hx => by subst hx; simp at *
     refine aC (fP O (bT O (jO O O (Z (kH ((HX4).aQ) bI O) (Z (iZ O O (by omega)) ?_)))))
     obtain ⟨bl4, ol4, cl4, el4⟩ := Rd.rG ((HX4).aQ) (by omega)
     cases el4
     refine Z (dP bI bM O O (by omega)) ?_
     refine Z (fG (dA aV O) O (by first | exact Rd.mZ ((HX4).aQ) (by omega) | exact Rd.yA ((HX4).aQ) (by omega) | exact Rd.xX ((HX4).aQ) (by omega))) ?_
     rw [show (gs.map (·.1)).getD (((gs.length : Nat) : Int) - 1).toNat undef = (gs.getD (gs.length - 1) default).1 from by have := List.length_pos_iff.2 hne; rw [show (((gs.length : Nat) : Int) - 1).toNat = gs.length - 1 from by omega]; simp [List.getD_eq_getElem?_getD, show gs.length - 1 < gs.length from by omega]]
     obtain ⟨gl, zk, hg⟩ : ∃ gl zk, gs.getD (gs.length - 1) default = (gl, zk) := ⟨_, _, rfl⟩
     rw [hg]
     have Ho8 := HX4.f3
     have X7 := Ho8.JA (by have := List.length_pos_iff.2 hne; omega) hg
     have ahg := (X7).YR
     have hgm : zk.map eF.says ∈ s.here := by rw [← hG]; exact List.mem_map.2 ⟨(gl, zk), by rw [← hg]; exact yU (by have := List.length_pos_iff.2 hne; omega), rfl⟩
     have hgb := JB hgm
     rw [List.length_map] at hgb
     have ahZ : zk.length ≤ 16384 := by unfold gG at hput; omega
     refine jV (iw (X7.jw none) aV Ak O O O ((X7).xO) (by assumption) (by omega) (by omega)) ?_
     rintro l10 w10 pW
     have HX7 := pW
     rw [Nat.zero_add, List.nil_append] at HX7
     refine fP O ?_
     have ahh := (HX7.f11).Du
     refine aC (jO O O (Z (jc bI O) (Z (iZ O O (by omega)) (jO O O (dL O (bJ 39 aS O bM O (fV aV O (HX7.f6).get.2 O (jV (iw HX7 aV Ak O O O ((HX7.f10).aQ) (by assumption) (by omega) (by omega)) ?_))))))))
     rintro l11 FX sW
     refine Z (dP bI bM O O (by omega)) (aI (OA 0 sW.f4 bM O O (by first | rfl | exact Rd.one ((sW).aQ)) (by omega) (by decide)) ?_)
     rintro _ w12 wL
     have ac5 := wL.f3
     have ac6 := (ac5.abz).f2.right
     have acX := ac6.f11.f2.f4
     have acY := V.rO (es := zk ++ es) (V.deep (V.JE rfl acX))
     have Uf := acY.f2
     have HX8 := Uf
     rw [show (((gs.length : Nat) : Int) - 1).toNat * 1 + 0 = gs.length - 1 from by omega] at HX8
     have ac3 := HX8.f3.f3.f3
     have ac4 := (V.XR hne ac3).V7
     have hGJ := SE (s := s) (u := l11) hG hne hg hS hp
     rw [← agF] at hGJ
     refine bY ?_
     refine dF (_) mG ug (by (try dsimp only); exact ⟨_, hGJ, ac4.f3.right.f7.right.f6.f6.f6.f6.f6.f6⟩)
    ·(try simp only [aA] at h3)
     have Y6 := HX4.f9.f9
     have Ul := V.rO (v := nw) (es := es) (V.deep Y6)
     have hnj : ¬ (on = true ∧ 0 < gs.length) := by first | omega | simp_all | (intro hx; simp_all; omega)
     refine aC (jO O O (dL O (bJ 39 aS O bM O (fV aV O (Ul.f5).get.2 O (jV (kZ (vs := [_]) Ul bI bM ny O O O (by decide) (aX (by first | rfl | exact Rd.one ((Ul).xO)) bQ)) ?_)))))
     rintro l22 w22 Gg
     refine jV (iw Gg.f3 bI IZ O O O ((Gg).aQ) (aX (by first | rfl | exact Rd.one ((Gg.f2).xO)) bQ) (by omega) (by omega)) ?_
     rintro l23 w23 Ce
     have agG := Ce.f2.right
     have adn := agG.f4.f3.f3
     have ado := (V.uz adn).DZ.V7
     have hGJ := LP (s := s) (on := on) (u := nw) hG hS hp hnj
     refine iJ O (bY ?_)
     refine dF (_) mG ug (by (try dsimp only); exact ⟨_, hGJ, ado.f3.right.f6.f6.f6.f6.f6.f6⟩)
   ·(try simp only [aA] at h2)
    refine bF (bF (bF (ig O O (iL (qH ?_)))))
    have agH := HX4.f9.f9
    have adp := V.rO (v := nw) (es := es) (V.deep agH)
    have hnj : ¬ (on = true ∧ 0 < gs.length) := by first | omega | simp_all | (intro hx; simp_all; omega)
    refine aC (jO O O (dL O (bJ 39 aS O bM O (fV aV O (adp.f5).get.2 O (jV (kZ (vs := [_]) adp bI bM ny O O O (by decide) (aX (by first | rfl | exact Rd.one ((adp).xO)) bQ)) ?_)))))
    rintro l29 w29 X6
    refine jV (iw X6.f3 bI IZ O O O ((X6).aQ) (aX (by first | rfl | exact Rd.one ((X6.f2).xO)) bQ) (by omega) (by omega)) ?_
    rintro l30 w30 Vp
    have agI := Vp.f2.right
    have agJ := agI.f4.f3.f3
    have agK := (V.uz agJ).DZ.V7
    have hGJ := LP (s := s) (on := on) (u := nw) hG hS hp hnj
    refine iJ O (bY ?_)
    refine dF (_) mG ug (by (try dsimp only); exact ⟨_, hGJ, agK.f3.right.f6.f6.f6.f6.f6.f6⟩)
end
theorem iH.bad {s : bC} {es : List eF} {A A' : List LE} {yf yt : Int} (h : iH s es A yf yt) (hin : s.inn = true) (hA : _root_.Go.Proofs.YtpdeedplgmbopaaGreatDoor.FY A' = s.was.un) (hP : xR s.hl A') : iH s.zn [] A' yf yt :=
  ⟨UA h.ok hin, ⟨(h.rx.2.1 hin).1, fun hi => absurd hi (by show ¬ false = true; decide), fun hi => absurd hi (by show ¬ false = true; decide)⟩, rfl, hA, hP, fun hi => absurd hi (by show ¬ false = true; decide)⟩
theorem xK (s : bC) : s.jT = { s with c := { s.c with un := (s.fM (s.typed && s.c.run)).c.un, run := s.typed && (!s.put.isEmpty || s.c.run), last := s.cls, fr := if s.cls = 2 then s.c.fr else 0, to := if s.cls = 2 then s.c.to else 0 }, given := if s.argues = true then s.given else false, minus := if s.argues = true then s.minus else false, arg := if s.argues = true then s.arg else -1, inn := false, put := [] } := by
  unfold bC.jT bC.jg bC.fM
  by_cases ha : s.argues = true
  · by_cases hp : s.put = []
    · by_cases hc : s.cls = 2
      · simp [ha, hp, hc, bC.qX]
      · simp [ha, hp, hc, bC.qX]
    · by_cases hc : s.cls = 2
      · simp [ha, hp, hc, bC.qX, bC.mJ, bC.jf, bC.here]
      · simp [ha, hp, hc, bC.qX, bC.mJ, bC.jf, bC.here]
  · by_cases hp : s.put = []
    · by_cases hc : s.cls = 2
      · simp [ha, hp, hc, bC.qX]
      · simp [ha, hp, hc, bC.qX]
    · by_cases hc : s.cls = 2
      · simp [ha, hp, hc, bC.qX, bC.mJ, bC.jf, bC.here]
      · simp [ha, hp, hc, bC.qX, bC.mJ, bC.jf, bC.here]
theorem iH.good {s : bC} {es : List eF} {A A' : List LE} {yf yt : Int} (h : iH s es A yf yt) (hA : _root_.Go.Proofs.YtpdeedplgmbopaaGreatDoor.FY A' = (s.fM (s.typed && s.c.run)).c.un) (hP : xR s.hl A') : iH s.jT [] A' yf yt := by
  have hok : lI s.jT := by
    have h1 := XJ (wQ h.ok) (s := s.jg) (by unfold bC.jg; split <;> exact h.rx.1) (s.typed && s.c.run)
    unfold bC.jT
    dsimp only
    split <;> exact h1
  have hx : GZ (s.fM (s.typed && s.c.run)).c := (XK h.ok h.rx _).1
  rw [xK] at hok ⊢
  exact ⟨hok, ⟨⟨hx.1, h.rx.1.2⟩, fun hi => absurd hi (by show ¬ false = true; decide), fun hi => absurd hi (by show ¬ false = true; decide)⟩, rfl, hA, hP, fun hi => absurd hi (by show ¬ false = true; decide)⟩
section
variable {w0 w : World} {F : HP} {p y h : Nat} {s : bC} {x : Int}
theorem SG (hin : s.inn = true) (hx : x ≠ 0) (H : V w0 w (qU y s • F)) : iI prog 64 #[.pointer (some ⟨y, 0, none⟩), .int .i64 x] w fun v w' => v = .int .i64 x ∧ V w0 w' (qU y s.zn • F) := by
 refine oN func64 ntmps64 ?_
 refine jR O (aO (aO ?_))
 obtain ⟨h_y, MQ, MR, MS, MV, XM, XO, A_y, XP, XQ, Sz, SA, SB, MW, MX, MZ, Na, Nb, Nc, Nh, Nj, Nk, Nl, Np, Nq, rW, FT, xU⟩ := (H).Sr
 have HI := xU
 rw [hin] at HI
 obtain ⟨qb, qk, qw, qn, qp, qg, qA, hu, hqA, hqP, hu1, HW⟩ := (HI.f12).agA
 simp only [II, List.cons.injEq, and_true] at hu
 obtain ⟨rfl, rfl, rfl, rfl, rfl, rfl, rfl, rfl, rfl, rfl, rfl, rfl⟩ := hu
 refine aC (nK O O (bJ 32 aS O aP O (fV bZ O (HW.f8).get.2 O (Z (lC O) (iL (PZ O (fun h1 => ?_)))))))
 (try simp only [aA] at h1)
 refine gQ (bT O (dL O (bJ 32 aS O aP O (aI (mP 32 HW.f8 aP) ?_))))
 rintro _ w2 H2
 refine qR (bT O (Z (iM O O) (jL O (fun h2 => ?_) (fun h => by exfalso; (try simp only [aA] at h); exact hx h))))
 (try simp only [aA] at h2)
 refine bT O (nK O O (bJ 13 aS O fH O (Z (pX 13 (xs := [_, _, _, _, _, _, _, _, _, _, _, _]) dI O fH O O (H2).get.2 O) (dL O (bJ 1 aS O fH O (aI (dw 1 (l' := [_, _, _, _, _, _, _, _, _, _, _, _, _, _, _, _, _, _, _, _, _, _, _, _, _, _, _, _, _, _, _, _, _, _, _, _, _, _, _, _, _, _]) (us := [_, _, _, _, _, _, _, _, _, _, _, _]) H2 fH O O O (aG (aG (aX (by first | rfl | exact Rd.one ((H2.f4).qM)) (aX (by first | rfl | exact Rd.one ((H2.f5).aQ)) (aG (aG (aX (by first | rfl | exact Rd.one ((H2.f6).kN)) (aX (by first | rfl | exact Rd.one ((H2.f7).qM)) (aG (aG (aG (aG bQ)))))))))))) O O) ?_))))))
 rintro _ w3 H3
 refine rZ O (dL O (bJ 39 aS O bM O (aI (mP 39 H3 bM) ?_)))
 rintro _ w4 H4
 refine rZ O (dL O (bJ 31 aS O sizeOf2 O (fV underlying2 O (H4).get.2 O (Z (acq O O) (dL O (bJ 31 aS O sizeOf2 O (aI (mP 31 H4 sizeOf2) ?_)))))))
 rintro _ w5 H5
 refine rZ O (jO O O (dL O (bJ 25 aS O aP O (aI (mP 25 H5 aP) ?_))))
 rintro _ w6 H6
 refine dL O (bJ 26 aS O aP O (aI (mP 26 H6 aP) ?_))
 rintro _ w7 H7
 refine dL O (bJ 27 aS O ay O (aI (mP 27 H7 ay) ?_))
 rintro _ w8 H8
 refine rZ O (jO O O (dL O (bJ 28 aS O ay O (aI (mP 28 H8 ay) ?_))))
 rintro _ w9 H9
 refine dL O (bJ 29 aS O ay O (aI (mP 29 H9 ay) ?_))
 rintro _ w10 pW
 refine dL O (bJ 30 aS O ay O (aI (mP 30 pW ay) ?_))
 rintro _ FX sW
 refine rZ O (dL O (bJ 39 aS O bM O (aI (mP 39 sW bM) ?_)))
 rintro _ w12 wL
 refine rZ O (fC O (aB (dK results64 O ?_)))
 exact ⟨O, V.Wi (s := s.zn) (rW.bad hin hqA hqP) O wL.f9.right.f9.right.f9.right.f9.right.f9.right.f9.right.f9.right.f10.right.f10.right.f9.f9.f9.f9.f9.f9.f9.f9.f9 hu1⟩
theorem aaf (s : bC) : s.typed = (decide (s.cls = 3) && s.whole) := by unfold bC.typed; congr 1
theorem empty_eq (l : List jl) : (!l.isEmpty) = decide ((l.length : Int) > 0) := by cases l with
  | nil => rfl
  | cons x r => simp
theorem PX (hin : s.inn = true) (H : V w0 w (qU y s • F)) : iI prog 64 #[.pointer (some ⟨y, 0, none⟩), .int .i64 0] w fun v w' => v = .int .i64 0 ∧ V w0 w' (qU y s.jT • F) := by
  obtain ⟨on, hon⟩ : ∃ on, on = (s.typed && s.c.run) := ⟨_, rfl⟩
  obtain ⟨rn, hrn⟩ : ∃ rn, rn = (s.typed && (!s.put.isEmpty || s.c.run)) := ⟨_, rfl⟩
  have Ri := hon
  have He := hrn
  rw [aaf] at Ri He
  rw [empty_eq] at He
  refine oN func64 ntmps64 ?_
  obtain ⟨h_y, MQ, MR, MS, MV, XM, XO, A_y, XP, XQ, Sz, SA, SB, MW, MX, MZ, Na, Nb, Nc, Nh, Nj, Nk, Nl, Np, Nq, rW, FT, xU⟩ := (H).Sr
  have HP9 := xU
  rw [← FT] at HP9
  have aag := rW.FY
  have hplA := rW.placed
  have U6 := rW.says
  have adq := rW.ok
  have hxA := rW.rx.1
  have adr : s.hl.length ≤ 4096 := by obtain ⟨hv9, hk9, _⟩ := (HP9.f9).VU; exact hk9.1
  have hu1 := XI (HP9.f12)
  refine jR O (aO (bT O (dL O (bJ 32 aS O aP O (fV bZ O (HP9).get.2 O (Z (lC O) (jL O (fun h => by exfalso; (try simp only [aA] at h); simp [hin] at h) (fun h1 => ?_))))))))
  (try simp only [aA] at h1)
  refine gQ (bT O (dL O (bJ 32 aS O aP O (aI (mP 32 HP9 aP) ?_))))
  rintro _ w2 H2
  refine qR (bT O (Z (iM O O) (iL (PZ O (fun h2 => ?_)))))
  (try simp only [aA] at h2)
  refine gQ (bT O (dL O (bJ 33 aS O ay O (fV aH O (H2).get.2 O (Z (dX O O) (fP O (bT O (dL O (bJ 39 aS O bM O (fV aV O (H2).get.2 O (Z (kH ((H2.f10).aQ) aV O) (Z (dY O O) (fP O ?_)))))))))))))
  refine lu [(0, _), (5, _), (6, _)] (fun (_ : Unit) => []) (fun (_ : Unit) W => ∃ pv2 gv2 A2 nw2, FY A2 = (s.fM on).c.un ∧ xR s.hl A2 ∧ V w0 W (dW y (.cells (.pointer (some ⟨h_y, 0, none⟩) :: .pointer (some ⟨MQ, 0, none⟩) :: .pointer (some ⟨MR, 0, none⟩) :: MS :: MV :: .int .i64 s.c.place :: .string (jC s.hl s.c.tx s.c.place) :: pv2 :: gv2 :: .int .i64 s.c.mode :: .bool s.c.over :: .int .i64 s.c.res :: .bool s.c.run :: MW :: MX :: MZ :: Na :: Nb :: Nc :: Nh :: Nj :: Nk :: Nl :: Np :: Nq :: .bool s.given :: .bool s.minus :: .int .i64 s.arg :: .int .i64 s.zT :: .int .i64 s.VA :: .int .i64 s.VB :: .int .i64 s.qW :: .bool false :: .int .i64 s.cls :: .int .i64 Sz :: .int .i64 SA :: .bool s.argues :: .bool s.kT :: .bool s.kU :: nw2 :: .bool s.whole :: .bool SB :: []).toArray 174 (0, 0)) • oI .i64 pv2 (A2.map (·.1)) • xM 1 gv2 A2.length (A2.map (·.2.1)) • sU A2 • Row 189 3 nw2 0 [] • lU [] • pV MQ s.c.L s.c.pt s.c.mark • nV MR s.c.E s.c.at_ • xM 1 MS (s.hl.length + 1) (strs (pK s.hl)) • Row 9 1 MV (s.hl.length + 1) (strs (xJ s.hl s.c.tx)) • jX h_y s.hl s.base s.most • ED s.inn s.hl s.was [MW, MX, MZ, Na, Nb, Nc, Nh, Nj, Nk, Nl, Np, Nq] • F)) vZ ?_ ?_
  · rintro _ w3 ⟨pv2, gv2, A2, nw2, hl2, hp2, HJ⟩
    dsimp only [List.cons_append, List.nil_append]
    refine lu [(0, _)] (fun (_ : Unit) => []) (fun (_ : Unit) W => V w0 W (dW y (.cells (.pointer (some ⟨h_y, 0, none⟩) :: .pointer (some ⟨MQ, 0, none⟩) :: .pointer (some ⟨MR, 0, none⟩) :: MS :: MV :: .int .i64 s.c.place :: .string (jC s.hl s.c.tx s.c.place) :: pv2 :: gv2 :: .int .i64 s.c.mode :: .bool s.c.over :: .int .i64 s.c.res :: .bool rn :: MW :: MX :: MZ :: Na :: Nb :: Nc :: Nh :: Nj :: Nk :: Nl :: Np :: Nq :: .bool s.given :: .bool s.minus :: .int .i64 s.arg :: .int .i64 s.zT :: .int .i64 s.VA :: .int .i64 s.VB :: .int .i64 s.qW :: .bool false :: .int .i64 s.cls :: .int .i64 Sz :: .int .i64 SA :: .bool s.argues :: .bool s.kT :: .bool s.kU :: nw2 :: .bool s.whole :: .bool SB :: []).toArray 174 (0, 0)) • oI .i64 pv2 (A2.map (·.1)) • xM 1 gv2 A2.length (A2.map (·.2.1)) • sU A2 • Row 189 3 nw2 0 [] • lU [] • pV MQ s.c.L s.c.pt s.c.mark • nV MR s.c.E s.c.at_ • xM 1 MS (s.hl.length + 1) (strs (pK s.hl)) • Row 9 1 MV (s.hl.length + 1) (strs (xJ s.hl s.c.tx)) • jX h_y s.hl s.base s.most • ED s.inn s.hl s.was [MW, MX, MZ, Na, Nb, Nc, Nh, Nj, Nk, Nl, Np, Nq] • F)) mG ?_ ?_
    · rintro _ w4 HJ2
      dsimp only [List.cons_append, List.nil_append]
      refine bT O (jO O O (nK O O (bJ 33 aS O ay O (fV aH O (HJ2).get.2 O (dL O (bJ 28 aS O ay O (aI (mP 28 HJ2 ay) ?_)))))))
      rintro _ w5 H5
      refine dL O (bJ 29 aS O ay O (aI (mP 29 H5 ay) ?_))
      rintro _ w6 H6
      refine dL O (bJ 30 aS O ay O (aI (mP 30 H6 ay) ?_))
      rintro _ w7 H7
      refine qR (bT O (dL O (bJ 33 aS O ay O (fV aH O (H7).get.2 O (Z (dX O O) (jL O (fun h3 => ?_) (fun h3 => ?_)))))))
      · (try simp only [aA] at h3)
        have hcT : s.cls = 2 := h3
        obtain ⟨rfl, rfl⟩ := rW.MI hin (rW.rx.2.2 hin hcT)
        have acf := H7.drew
        have wS := V.kp (acf.f12.f12.f12.f12.f12.f12.f12.f12.f12.f12.f12.f12)
        refine y9 [5, 9] wS O (iU 0 O wS O (iU 1 O wS O (iU 2 O wS O (jY 3 O wS O (iq 4 O wS 34 aS O ay O (jQ 5 O wS (fun W hW => kF aH O ((Kp.h hW)).get.2 O) (iU 6 O wS O (jY 7 O wS O (iq 8 O wS 35 aS O ay O (jQ 9 O wS (fun W hW => kF aH O ((Kp.h hW)).get.2 O) (jY 10 O wS O (iq 11 O wS 29 aS O ay O ?_))))))))))))
        refine gy 12 O (by kernel_rfl) (mP 29 acf ay) ?_
        rintro _ w8 H8
        have TQ := V.kp (H8.f12.f12.f12.f12.f12.f12.f12.f12.f12.f12.f12.f12)
        refine gU TQ (by kernel_rfl) ?_
        refine jY 13 O TQ O (iq 14 O TQ 30 aS O ay O ?_)
        refine gy 15 O (by kernel_rfl) (mP 30 H8 ay) ?_
        rintro _ w9 H9
        have TR := V.kp (H9.f12.f12.f12.f12.f12.f12.f12.f12.f12.f12.f12.f12)
        refine gU TR (by kernel_rfl) ?_
        refine ru (aW (aO (bT O (dL O (bJ 36 aS O aP O (fV bZ O (H9).get.2 O (Z (lC O) (jL O (fun h4 => ?_) (fun h4 => ?_)))))))))
        · (try simp only [aA] at h4)
          have haF : ¬ s.argues = true := by simp_all
          refine aC (jO O O (nK O O (bJ 25 aS O aP O (aI (mP 25 H9 aP) ?_))))
          rintro _ w10 pW
          refine dL O (bJ 26 aS O aP O (aI (mP 26 pW aP) ?_))
          rintro _ FX sW
          refine dL O (bJ 27 aS O ay O (aI (mP 27 sW ay) ?_))
          rintro _ w12 wL
          refine iL (jP O (dK results64 O ?_))
          refine ⟨O, ?_⟩
          rw [hon] at hl2
          have hG := rW.good hl2 hp2
          rw [xK] at hG ⊢
          have HX := wL.f12.right.f6.f6.f11.f7.f7.f7.f11.f11.f11.f11.f11
          have Xu := HX.G6 (hl := s.hl) (c := s.was) hu1
          have HX3 := Xu.f12.f12.f12.f12.f12.f12.f12.f12.f12.f12.f12
          first | simp only [if_pos hcT] at hG ⊢ | simp only [if_neg hcF] at hG ⊢
          first | simp only [if_pos haT] at hG ⊢ | simp only [if_neg haF] at hG ⊢
          rw [← hrn] at hG ⊢
          exact V.vX hG HX3
        · (try simp only [aA] at h4)
          have haT : s.argues = true := by simp_all
          refine gQ (jP O (dK results64 O ?_))
          refine ⟨O, ?_⟩
          rw [hon] at hl2
          have hG := rW.good hl2 hp2
          rw [xK] at hG ⊢
          have HX := H9.f12.right.f6.f6.f11.f7.f7.f7.f11.f11.f11.f11.f11
          have Xu := HX.G6 (hl := s.hl) (c := s.was) hu1
          have HX3 := Xu.f12.f12.f12.f12.f12.f12.f12.f12.f12.f12.f12
          first | simp only [if_pos hcT] at hG ⊢ | simp only [if_neg hcF] at hG ⊢
          first | simp only [if_pos haT] at hG ⊢ | simp only [if_neg haF] at hG ⊢
          rw [← hrn] at hG ⊢
          exact V.vX hG HX3
      · (try simp only [aA] at h3)
        have hcF : ¬ s.cls = 2 := h3
        refine gQ (aO (bT O (dL O (bJ 36 aS O aP O (fV bZ O (H7).get.2 O (Z (lC O) (jL O (fun h5 => ?_) (fun h5 => ?_))))))))
        · (try simp only [aA] at h5)
          have haF : ¬ s.argues = true := by simp_all
          refine aC (jO O O (nK O O (bJ 25 aS O aP O (aI (mP 25 H7 aP) ?_))))
          rintro _ Qs xZ
          refine dL O (bJ 26 aS O aP O (aI (mP 26 xZ aP) ?_))
          rintro _ P6 Az
          refine dL O (bJ 27 aS O ay O (aI (mP 27 Az ay) ?_))
          rintro _ Qu zI
          refine iL (jP O (dK results64 O ?_))
          refine ⟨O, ?_⟩
          rw [hon] at hl2
          have hG := rW.good hl2 hp2
          rw [xK] at hG ⊢
          have HX := zI.f12.right.f6.f6.f11.f7.f7.f7.f11.f11.f11.f11.f11
          have Xu := HX.G6 (hl := s.hl) (c := s.was) hu1
          have HX3 := Xu.f12.f12.f12.f12.f12.f12.f12.f12.f12.f12.f12
          first | simp only [if_pos hcT] at hG ⊢ | simp only [if_neg hcF] at hG ⊢
          first | simp only [if_pos haT] at hG ⊢ | simp only [if_neg haF] at hG ⊢
          rw [← hrn] at hG ⊢
          exact V.vX hG HX3
        · (try simp only [aA] at h5)
          have haT : s.argues = true := by simp_all
          refine gQ (jP O (dK results64 O ?_))
          refine ⟨O, ?_⟩
          rw [hon] at hl2
          have hG := rW.good hl2 hp2
          rw [xK] at hG ⊢
          have HX := H7.f12.right.f6.f6.f11.f7.f7.f7.f11.f11.f11.f11.f11
          have Xu := HX.G6 (hl := s.hl) (c := s.was) hu1
          have HX3 := Xu.f12.f12.f12.f12.f12.f12.f12.f12.f12.f12.f12
          first | simp only [if_pos hcT] at hG ⊢ | simp only [if_neg hcF] at hG ⊢
          first | simp only [if_pos haT] at hG ⊢ | simp only [if_neg haF] at hG ⊢
          rw [← hrn] at hG ⊢
          exact V.vX hG HX3
    · skip
      refine aC (jO O O (jJ O (fun h6 => ?_) (fun h6 => ?_)))
      · (try simp only [aA] at h6)
        refine bg (bP O (bg (dL O (bg (bJ 40 aS O aP O (bg (fV bZ O (HJ).get.2 O (jh O O (jJ O (fun h7 => ?_) (fun h7 => ?_))))))))))
        · (try simp only [aA] at h7)
          refine bg (bP O (bg (jJ O (fun h8 => ?_) (fun h8 => ?_))))
          · (try simp only [aA] at h8)
            refine bF (bF (bF (bF (bF (bg (jh O O (jh O O (dL O (bJ 1 aS O fH O (bJ 11 dI O aP O (aI (mP 12 HJ aP) ?_)))))))))))
            rintro _ w16 uY
            refine bY ?_
            refine dF (()) ?_ ?_ ?_
            · exact (Sub.nil _)
            · exact mG
            · (try dsimp only)
              first | done | exact (by first | (rw [show rn = true from by rw [He]; simp_all; done]; exact uY.f12.f12.f12.f12.f12.f12.f12.f12.f12.f12.f12.f12) | (rw [show rn = false from by rw [He]; simp_all; done]; exact uY.f12.f12.f12.f12.f12.f12.f12.f12.f12.f12.f12.f12) | (rw [show rn = s.c.run from by rw [He]; simp_all; done]; exact uY.f12.f12.f12.f12.f12.f12.f12.f12.f12.f12.f12.f12))
          · (try simp only [aA] at h8)
            refine bg (bP O (bg (dL O (bg (bJ 1 aS O fH O (bg (bJ 11 dI O aP O (bg (fV bZ O (HJ).get.2 O (bg (ig O O (jh O O (dL O (bJ 1 aS O fH O (bJ 11 dI O aP O (aI (mP 12 HJ aP) ?_))))))))))))))))
            rintro _ Yr EH
            refine bY ?_
            refine dF (()) ?_ ?_ ?_
            · exact (Sub.nil _)
            · exact mG
            · (try dsimp only)
              first | done | exact (by first | (rw [show rn = true from by rw [He]; simp_all; done]; exact EH.f12.f12.f12.f12.f12.f12.f12.f12.f12.f12.f12.f12) | (rw [show rn = false from by rw [He]; simp_all; done]; exact EH.f12.f12.f12.f12.f12.f12.f12.f12.f12.f12.f12.f12) | (rw [show rn = s.c.run from by rw [He]; simp_all; done]; exact EH.f12.f12.f12.f12.f12.f12.f12.f12.f12.f12.f12.f12))
        · (try simp only [aA] at h7)
          refine bF (bF (mY (mY (mY (mY (mY (bF (ig O O (dL O (bJ 1 aS O fH O (bJ 11 dI O aP O (aI (mP 12 HJ aP) ?_))))))))))))
          rintro _ Ym Eb
          refine bY ?_
          refine dF (()) ?_ ?_ ?_
          · exact (Sub.nil _)
          · exact mG
          · (try dsimp only)
            first | done | exact (by first | (rw [show rn = true from by rw [He]; simp_all; done]; exact Eb.f12.f12.f12.f12.f12.f12.f12.f12.f12.f12.f12.f12) | (rw [show rn = false from by rw [He]; simp_all; done]; exact Eb.f12.f12.f12.f12.f12.f12.f12.f12.f12.f12.f12.f12) | (rw [show rn = s.c.run from by rw [He]; simp_all; done]; exact Eb.f12.f12.f12.f12.f12.f12.f12.f12.f12.f12.f12.f12))
      · (try simp only [aA] at h6)
        refine bF (bF (bF (bF (ig O O (bP O (bF (bF (mY (mY (mY (mY (mY (bF (ig O O (dL O (bJ 1 aS O fH O (bJ 11 dI O aP O (aI (mP 12 HJ aP) ?_))))))))))))))))))
        rintro _ w19 Dl
        refine bY ?_
        refine dF (()) ?_ ?_ ?_
        · exact (Sub.nil _)
        · exact mG
        · (try dsimp only)
          first | done | exact (by first | (rw [show rn = true from by rw [He]; simp_all; done]; exact Dl.f12.f12.f12.f12.f12.f12.f12.f12.f12.f12.f12.f12) | (rw [show rn = false from by rw [He]; simp_all; done]; exact Dl.f12.f12.f12.f12.f12.f12.f12.f12.f12.f12.f12.f12) | (rw [show rn = s.c.run from by rw [He]; simp_all; done]; exact Dl.f12.f12.f12.f12.f12.f12.f12.f12.f12.f12.f12.f12))
  · skip
    refine aC (jO O O (jJ O (fun h9 => ?_) (fun h9 => ?_)))
    · (try simp only [aA] at h9)
      refine bg (bP O (bg (dL O (bg (bJ 40 aS O aP O (bg (fV bZ O (H2).get.2 O (jh O O (jJ O (fun h10 => ?_) (fun h10 => ?_))))))))))
      · (try simp only [aA] at h10)
        refine bg (bP O (bg (dL O (bg (bJ 1 aS O fH O (bg (bJ 11 dI O aP O (bg (fV bZ O (H2).get.2 O (jh O O (dS O func116 (BU aag hplA U6 adq hxA adr H2.f11.f11.f10.f10.f10.f6) ?_)))))))))))
        rintro _ w20 ⟨ah0, ah1, A20, ah2, ads, ae9, Di⟩
        have D5 := ads
        have aah := ae9
        first
          | rw [show s.c.run = on from by rw [Ri]; simp_all] at D5
          | rw [show false = on from by rw [Ri]; simp_all] at D5
        refine bY ?_
        refine dF (()) ?_ ?_ ?_
        · exact (Sub.nil _)
        · exact vZ
        · (try dsimp only)
          first | done | exact ⟨_, _, _, _, D5, aah, Di.f12.f12.f12.f12.f12.f12.f12.f12.f12.f12.f12.f12⟩
      · (try simp only [aA] at h10)
        refine bF (bF (bF (bF (bF (ig O O (dS O func116 (BU aag hplA U6 adq hxA adr H2.f11.f11.f10.f10.f10.f6) ?_))))))
        rintro _ w21 ⟨ah3, ah4, A21, ah5, adt, afa, vN⟩
        have D5 := adt
        have aah := afa
        first
          | rw [show s.c.run = on from by rw [Ri]; simp_all] at D5
          | rw [show false = on from by rw [Ri]; simp_all] at D5
        refine bY ?_
        refine dF (()) ?_ ?_ ?_
        · exact (Sub.nil _)
        · exact vZ
        · (try dsimp only)
          first | done | exact ⟨_, _, _, _, D5, aah, vN.f12.f12.f12.f12.f12.f12.f12.f12.f12.f12.f12.f12⟩
    · (try simp only [aA] at h9)
      refine bF (bF (bF (bF (ig O O (bP O (bF (bF (bF (bF (bF (ig O O (dS O func116 (BU aag hplA U6 adq hxA adr H2.f11.f11.f10.f10.f10.f6) ?_))))))))))))
      rintro _ w22 ⟨ah6, ah7, A22, ah8, adu, afb, Gg⟩
      have D5 := adu
      have aah := afb
      first
        | rw [show s.c.run = on from by rw [Ri]; simp_all] at D5
        | rw [show false = on from by rw [Ri]; simp_all] at D5
      refine bY ?_
      refine dF (()) ?_ ?_ ?_
      · exact (Sub.nil _)
      · exact vZ
      · (try dsimp only)
        first | done | exact ⟨_, _, _, _, D5, aah, Gg.f12.f12.f12.f12.f12.f12.f12.f12.f12.f12.f12.f12⟩
theorem SH (H : V w0 w (qU y s • F)) : iI prog 64 #[.pointer (some ⟨y, 0, none⟩), .int .i64 x] w fun v w' => v = .int .i64 (s.AQ x) ∧ V w0 w' (qU y (s.jZ x) • F) := by
 by_cases hin : s.inn = true
 ·by_cases hx : x = 0
  ·subst hx
   rw [show s.jZ 0 = s.jT from by unfold bC.jZ; rw [if_pos hin, if_pos rfl], show s.AQ 0 = 0 from by unfold bC.AQ; rw [if_pos hin]]
   exact PX hin H
  ·rw [(Eo hin hx).1, (Eo hin hx).2]
   exact SG hin hx H
 ·have hin' : s.inn = false := by simpa using hin
  rw [show s.jZ x = s from by unfold bC.jZ; rw [if_neg hin], show s.AQ x = 1 from by unfold bC.AQ; rw [if_neg hin]]
  refine oN func64 ntmps64 ?_
  refine jR O (aO (aO ?_))
  obtain ⟨h_y, MQ, MR, MS, MV, XM, XO, A_y, XP, XQ, Sz, SA, SB, MW, MX, MZ, Na, Nb, Nc, Nh, Nj, Nk, Nl, Np, Nq, rW, FT, xU⟩ := (H).Sr
  refine aC (nK O O (bJ 32 aS O aP O (fV bZ O (xU).get.2 O (Z (lC O) (jL O (fun h1 => ?_) (fun h => by exfalso; (try simp only [aA] at h); simp [hin'] at h))))))
  (try simp only [aA] at h1)
  refine jP O (aB (dK results64 O ?_))
  have WU := xU.f12.f12.f12.f12.f12.f12.f12.f12.f12.f12.f12.f12
  have Vt := V.vX (s := s) rW WU
  exact ⟨O, Vt⟩
end
end Go.Proofs.YtpdeedplgmbopaaGreatDoor
end
