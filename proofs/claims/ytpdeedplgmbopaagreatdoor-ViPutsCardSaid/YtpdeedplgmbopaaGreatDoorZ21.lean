import Derived.Test.YtpdeedplgmbopaaGreatDoorZ4
import Derived.Test.YtpdeedplgmbopaaGreatDoorZ20
set_option linter.unusedSimpArgs false
set_option linter.unusedVariables false
/- Texts of mine, joined, their names in short: REdB REdR REdT REdF REdE. -/
section
namespace Go.Proofs.YtpdeedplgmbopaaGreatDoor
open Go.RowKit
open _root_.Go.Proofs.Tryz
section
variable {w0 w : World} {F : HP} {p y h : Nat} {L : List Int} {pt mk n : Int} {E : List (List Int)} {place : Nat} {s : bn} {l : List Int} {v wv nv : Value} {m : Nat} {xs ys : List Value}
theorem Qd (H : V w0 w (ql p L pt mk • F)) : iE prog 152 #[.pointer (some ⟨p, 0, none⟩)] w fun v w' => ∃ q, v = .pointer (some ⟨q, 0, none⟩) ∧ V w0 w' (ql q L pt mk • ql p L pt mk • F) := by
 refine iZ func152 ntmps152 ?_
 refine jQ O (aN ?_)
 obtain ⟨ahM, ahN, afi, afj, afk, ahO, ahP, agM⟩ := (H).ref
 refine aC (uZ O ?_)
 have UN := agM.drew
 have nZ := V.kp (UN.f2.f2)
 refine yH [4, 9, 13] nZ O (iQ 0 O nZ O (iQ 1 O nZ O (jU 2 O nZ O (gU 3 O nZ 0 underlying222 O dh O (jO 4 O nZ (fun W hW => jV aj O ((Kp.h hW)).get.2 O) (iQ 6 O nZ O (jU 7 O nZ O (gU 8 O nZ 1 underlying222 O ay O (jO 9 O nZ (fun W hW => jV aH O ((Kp.h hW)).get.2 O) (iQ 10 O nZ O (jU 11 O nZ O (gU 12 O nZ 2 underlying222 O ay O (jO 13 O nZ (fun W hW => jV aH O ((Kp.h hW)).get.2 O) (mZ 5 O (nN (l := []) (UN.jk none) ((UN.f2).aS) aj aan O O (by first | omega | (simp only [List.length_append, List.length_nil, List.length_cons]; omega) | (simp; omega)) (by first | omega | (simp only [List.length_append, List.length_nil, List.length_cons]; omega) | (simp; omega))) ?_))))))))))))))
 rintro l2 w2 H2
 try simp only [List.nil_append] at H2
 have AL := V.kp (H2.f3.f3.f3)
 refine eF AL (fun W hW => (Kp.h hW).right.f2.f2) ?_
 refine jC 14 O AL (fun _ => fC (zl := [.slice none 0 0, .int .i64 0, .int .i64 0]) (pl := [(0, 1), (1, 1), (2, 1)]) [_, _, _] underlying222 zeroValue222 O (fun w => by kernel_rfl) O (.one (Rd.one ((H2).aS)) (.on (.on .nil))) O) ?_
 refine mZ 15 O (jL (l := [_, _, _]) H2 O O) ?_
 rintro _ w3 ⟨b3, rfl, H3⟩
 have Az := V.kp (H3.f4.f4.f4.f4)
 refine iG Az (by kernel_rfl) ?_
 refine jC 16 O Az (fun _ => dR O) (qV (aX (nI (dL results152 O ?_))))
 have Ho5 := H3.f4.f4
 have Hc6 := V.Vd afi afj afk Ho5
 exact ⟨_, O, V.Vd afi afj afk Hc6.f3.f3⟩
theorem LP (H : V w0 w (oq p E place • F)) (hE : E.length ≤ 60 ∧ (place < E.length ∨ place = 0) ∧ ∀ e ∈ E, e.length ≤ 1024) : iE prog 153 #[.pointer (some ⟨p, 0, none⟩)] w fun v w' => ∃ q, v = .pointer (some ⟨q, 0, none⟩) ∧ V w0 w' (oq q E place • oq p E place • F) := by
 obtain ⟨u, HR⟩ := H.afd
 obtain ⟨us, HR⟩ := HR.swap.ll
 obtain ⟨au, cu, rfl, -⟩ := (HR.aS).form
 have hE1 : E.length ≤ 60 := hE.1
 have hE2 : ∀ k, (E.getD k []).length ≤ 1024 := RQ hE.2.2
 refine iZ func153 ntmps153 ?_
 refine jQ O (jQ O (aN (jQ O (aY ?_))))
 refine gW [(0, _)] (fun (⟨k, z⟩ : Nat × Value) => [(3, z), (4, .int .i64 (k : Int))]) (fun (⟨k, z⟩ : Nat × Value) W => k ≤ E.length ∧ ∃ zs, V w0 W (Row 22 1 z k zs • Dz .i32 zs (E.take k) • Row 22 1 (.slice au E.length cu) E.length us • Dz .i32 us E • dW p (.cells #[.slice au E.length cu, .int .i64 place] 176 (0, 0)) • F)) (fun (⟨k, z⟩ : Nat × Value) => E.length - k) ((0, .slice none 0 0)) lU uJ ⟨by omega, [], (HR.f3.f3.f3).QH.jk none⟩ ?_
 rintro ⟨k, z⟩ w1 ⟨hk, zs, HL⟩
 dsimp only [List.cons_append, List.nil_append]
 obtain ⟨az, cz, rfl, -⟩ := (HL.aS).form
 refine aN (bQ O (nG O O (bJ 0 underlying176 O sizeOf47 O (fM iW O (HL.f5).get.2 O (Z (kK ((HL.f3).aS) iW O) (Z (fZ O O) (jB O (fun h1 => ?_) (fun h1 => ?_))))))))
 ·(try simp only [aA] at h1)
  refine gG (aN (aY ?_))
  have hkl : k < E.length := by omega
  have hek := hE2 k
  refine aC (jR O O (dK O (bJ 0 underlying176 O sizeOf47 O (fM iW O (HL.f5).get.2 O (bT O ?_)))))
  obtain ⟨bu, ou, cu, eu⟩ := Rd.rM ((HL.f3).aS) (by omega)
  cases eu
  refine Z (dP iW dh O O (by omega)) ?_
  refine Z (fK (dA aj O) O (by first | exact Rd.ni ((HL.f3).aS) (by omega) | exact Rd.yc ((HL.f3).aS) (by omega) | exact Rd.yx ((HL.f3).aS) (by omega))) ?_
  refine acI (fun ahg adG => ?_)
  refine dS O func181 (XV HL (fun W HW => (by rw [adG]; exact (HW.f4).aa8 (by omega))) (by omega)) ?_
  rintro u3 w3 H3
  have Hf4 := H3.lN
  refine kD (lq (vs := [_]) Hf4 iW dh zeroValue22 O O O (by decide) (aZ (by first | rfl | exact Rd.one ((Hf4).kR)) bU)) ?_
  rintro l5 w5 H5
  refine kD (iy H5.f3 iW acv O O O ((H5).aS) (aZ (by first | rfl | exact Rd.one ((H5.f2).kR)) bU) (by omega) (by omega)) ?_
  rintro l6 w6 H6
  have Hd7 := H6.f2.right
  refine iK O (bW (aK (aX (aC (bT O (Z (fJ O O (by omega)) (iK O (bW ?_))))))))
  have HS := (Hd7.f6.f6.f6.f4.f5.f6).W9.f2
  refine dV ((k + 1, l6)) ?_ ?_ ?_ ?_
  ·exact uJ
  ·exact lU
  ·(try dsimp only)
   first | done | exact ⟨by omega, _, by rw [LK (d := []) hkl]; exact HS⟩
  ·(try dsimp only); omega
 ·(try simp only [aA] at h1)
  refine dO (aO (aO (bI (aX (bQ O (nG O O (bJ 1 underlying176 O ay O (fM aH O (HL.f5).get.2 O ?_))))))))
  refine Z (fC (zl := [.slice none 0 0, .int .i64 0]) (pl := [(0, 1), (1, 1)]) [_, _] underlying176 zeroValue176 O (fun w => by kernel_rfl) O (.one (Rd.one ((HL).aS)) (.on .nil)) O) ?_
  refine kD (jL (l := [_, _]) HL O O) ?_
  rintro _ w8 ⟨b8, rfl, H8⟩
  refine fB O (dL results153 O ?_)
  have HL2 := V.YO (H8.f6.f6.f6.f4.f6.f6)
  rw [List.take_of_length_le (by omega)] at HL2
  have HL3 := V.LJ HL2.f2
  exact ⟨_, O, (V.LJ (V.YO HL3.f3.f3).f3).f2⟩
theorem LQ {x : Int} (H : V w0 w (dW p (.cells #[wv, nv, .int .i64 x] 166 (0, 0)) • Row 9 1 nv m ys • xY 1 wv m xs • F)) (hy : ∀ u ∈ ys, u.oneCell' = true) (hm : m ≤ 4097) : iE prog 154 #[.pointer (some ⟨p, 0, none⟩)] w fun v w' => ∃ q nv', v = .pointer (some ⟨q, 0, none⟩) ∧
  V w0 w' (dW q (.cells #[wv, nv', .int .i64 x] 166 (0, 0)) • Row 9 1 nv' m ys • dW p (.cells #[wv, nv, .int .i64 x] 166 (0, 0)) • Row 9 1 nv m ys • xY 1 wv m xs • F) := by
 refine iZ func154 ntmps154 ?_
 refine jQ O (aN ?_)
 have Us := H.drew
 have oG := V.kp (Us.f3.f3.f3)
 refine yH [3, 7, 12] oG O (iQ 0 O oG O (jU 1 O oG O (gU 2 O oG 0 iI O sizeOf33 O (jO 3 O oG (fun W hW => jV jq O ((Kp.h hW)).get.2 O) (iQ 4 O oG O (jU 5 O oG O (gU 6 O oG 1 iI O sizeOf33 O (jO 7 O oG (fun W hW => jV jq O ((Kp.h hW)).get.2 O) (iQ 9 O oG O (jU 10 O oG O (gU 11 O oG 2 iI O ay O (jO 12 O oG (fun W hW => jV aH O ((Kp.h hW)).get.2 O) (mZ 8 O (iy (Us.jk none) jq abt O O O ((Us.f2).aS) (by assumption) (by omega) (by omega)) ?_)))))))))))))
 rintro l1 w1 H1
 have afl := V.kp (H1.f4.f4.f4.f4)
 refine eF afl (fun W hW => (Kp.h hW).right.f3.f3.f3) ?_
 refine jC 13 O afl (fun _ => fC (zl := [.slice none 0 0, .slice none 0 0, .int .i64 0]) (pl := [(0, 1), (1, 1), (2, 1)]) [_, _, _] iI zeroValue166 O (fun w => by kernel_rfl) O (.one (Rd.one ((H1.f4).qP)) (.one (Rd.one ((H1).aS)) (.on .nil))) O) ?_
 refine mZ 14 O (jL (l := [_, _, _]) H1 O O) ?_
 rintro _ w2 ⟨b2, rfl, H2⟩
 have AL := V.kp (H2.f5.f5.f5.f5.f5)
 refine iG AL (by kernel_rfl) ?_
 refine jC 15 O AL (fun _ => dR O) (qV (aX (nI (dL results154 O ?_))))
 have HQ := H2.f5.f5.f5.f5.f5
 simp only [Nat.zero_add, List.nil_append] at HQ
 exact ⟨_, _, O, HQ⟩
theorem SV {pb pk : Nat} {pv gv : Value} {x md rs : Int} {t : ByteArray} {ov rn : Bool} (H : V w0 w (ql pb L pt mk • oq pk E place • Row 9 1 nv m ys • xY 1 wv m xs • F)) (hE : E.length ≤ 60 ∧ (place < E.length ∨ place = 0) ∧ ∀ e ∈ E, e.length ≤ 1024) (hy : ∀ u ∈ ys, u.oneCell' = true) (hm : m ≤ 4097) (o1 : pv.oneCell' = true) (o2 : gv.oneCell' = true) :
  iE prog 115 #[.agg #[.pointer (some ⟨pb, 0, none⟩), .pointer (some ⟨pk, 0, none⟩), wv, nv, .int .i64 x, .string t, pv, gv, .int .i64 md, .bool ov, .int .i64 rs, .bool rn]] w fun v w' => ∃ qb qk nv',
   v = .agg #[.pointer (some ⟨qb, 0, none⟩), .pointer (some ⟨qk, 0, none⟩), wv, nv', .int .i64 x, .string t, pv, gv, .int .i64 md, .bool ov, .int .i64 rs, .bool rn] ∧
   V w0 w' (ql qb L pt mk • oq qk E place • Row 9 1 nv' m ys • ql pb L pt mk • oq pk E place • Row 9 1 nv m ys • xY 1 wv m xs • F) := by
 refine iZ func115 ntmps115 ?_
 refine iR (kD (jL (l := [_, _, _, _, _, _, _, _, _, _, _, _]) H O O) ?_)
 rintro _ w1 ⟨b1, rfl, H1⟩
 refine kD (iC (l := [_, _, _, _, _, _, _, _, _, _, _, _]) H1 zeroValue172 O) ?_
 rintro _ w2 ⟨b2, rfl, H2⟩
 refine zk7 (bJ 0 dI O sizeOf163 O (fM underlying163 O (H2.f2).get.2 O (dS O func152 (Qd H2.f3) ?_)))
 rintro _ w3 ⟨q3, rfl, H3⟩
 refine bJ 0 dI O sizeOf163 O (aJ (fP 0 (l' := [_, _, _, _, _, _, _, _, _, _, _, _]) H3.f4 sizeOf163 O O (by first | rfl | assumption) O O) ?_)
 rintro _ w4 H4
 refine zk7 (bJ 1 dI O sizeOf164 O (fM underlying164 O (H4).get.2 O (dS O func153 (LP H4.f5 (by assumption)) ?_)))
 rintro _ w5 ⟨q5, rfl, H5⟩
 refine bJ 1 dI O sizeOf164 O (aJ (fP 1 (l' := [_, _, _, _, _, _, _, _, _, _, _, _]) H5.f3 sizeOf164 O O (by first | rfl | assumption) O O) ?_)
 rintro _ w6 H6
 refine zk7 (bJ 2 dI O pJ O (Z (qx 2 (xs := [_, _, _]) iI O pJ O O (H6).get.2 O) (kD (iC (l := [_, _, _]) H6 zeroValue166 O) ?_)))
 rintro _ w7 ⟨b7, rfl, H7⟩
 refine aJ (dB 0 (l' := [_, _, _]) (us := [_, _, _]) H7 pJ O O O (aZ (by first | rfl | exact Rd.one ((H7.f9).qP)) (aZ (by first | rfl | exact Rd.one ((H7.f8).aS)) (aG bU))) O O) ?_
 rintro _ w8 H8
 refine zk7 (dS O func154 (LQ H8.f9.f9.f3 (by assumption) (by omega)) ?_)
 rintro _ w9 ⟨q9, nv9, rfl, H9⟩
 refine dK O (Z (dM iI O pJ O O (H9).get.2) (bJ 2 dI O pJ O (aJ (dB 2 (l' := [_, _, _, _, _, _, _, _, _, _, _, _]) (us := [_, _, _]) H9.f6 pJ O O O (aZ (by first | rfl | exact Rd.one ((H9.f5).qP)) (aZ (by first | rfl | exact Rd.one ((H9.f2).aS)) (aG bU))) O O) ?_)))
 rintro _ w10 pR
 refine zk7 (Z (dM dI O fO O O (pR).get.2) (aJ (dB 0 (l' := [_, _, _, _, _, _, _, _, _, _, _, _]) (us := [_, _, _, _, _, _, _, _, _, _, _, _]) pR.f11 fO O O O (aG (aG (aZ (by first | rfl | exact Rd.one ((pR.f6).qP)) (aZ (by first | rfl | exact Rd.one ((pR.f3).aS)) (aG (aG (aG (aG (aG (aG (aG (aG bU)))))))))))) O O) ?_))
 rintro _ Fv tq
 refine zkc ?_
 refine rJ (.inl O) (OI results115 O dI O (by rw [adH]; rfl) (tq).get.2) ?_
 exact ⟨_, _, _, O, tq.right.right.right.f2.right.f3.f3.f5.f7.f5.f6.f7⟩
theorem V.abQ {k : IntKind} (H : V w0 w (oP k v l • F)) : V w0 w (oP k v l • oP k v l • F) := H.vF
theorem V.abR {A : List LE} (H : V w0 w (uh A • F)) : V w0 w (uh A • uh A • F) := H.vF
theorem V.Wu {h pb pk : Nat} {wv nv pv gv : Value} {A : List LE} {yf yt : Int} {ch : Bool} {u0 u1 u2 u3 u4 u5 u6 u7 u8 u9 ua ub : Value} (h1 : lg s [] A yf yt) (H : V w0 w (dW y (.cells (.pointer (some ⟨h, 0, none⟩) :: .pointer (some ⟨pb, 0, none⟩) :: .pointer (some ⟨pk, 0, none⟩) :: wv :: nv :: .int .i64 s.c.place :: .string (kL s.hl s.c.tx s.c.place) :: pv :: gv :: .int .i64 s.c.mode :: .bool s.c.over :: .int .i64 s.c.res :: .bool s.c.run :: u0 :: u1 :: u2 :: u3 :: u4 :: u5 :: u6 :: u7 :: u8 :: u9 :: ua :: ub :: .bool s.given :: .bool s.minus :: .int .i64 s.arg :: .int .i64 s.CX :: .int .i64 s.Yk :: .int .i64 s.Yl :: .int .i64 s.um :: .bool s.inn :: .int .i64 s.cls :: .int .i64 yf :: .int .i64 yt :: .bool s.argues :: .bool s.killed :: .bool s.kU :: .slice none 0 0 :: .bool s.whole :: .bool ch :: []).toArray 174 (0, 0)) • ql pb s.c.L s.c.pt s.c.mark • oq pk s.c.E s.c.at_ • xY 1 wv (s.hl.length + 1) (strs (qc s.hl)) • Row 9 1 nv (s.hl.length + 1) (strs (xW s.hl s.c.tx)) • oP .i64 pv (A.map (·.1)) • xY 1 gv A.length (A.map (·.2.1)) • uh A • kC h s.hl s.base s.most • EK s.inn s.hl s.was [u0, u1, u2, u3, u4, u5, u6, u7, u8, u9, ua, ub] • F)) : V w0 w (qW y s • F) := by
  refine V.vY (y := y) (h := h) (pb := pb) (pk := pk) (wv := wv) (nv := nv) (pv := pv) (gv := gv) (ch := ch) (u0 := u0) (u1 := u1) (u2 := u2) (u3 := u3) (u4 := u4) (u5 := u5) (u6 := u6) (u7 := u7) (u8 := u8) (u9 := u9) (ua := ua) (ub := ub) (nw := .slice none 0 0) (es := []) h1 ?_
  rw [← h1.says]
  exact (H.uG none).of_eq (by unfold L6; simp only [List.length_nil, List.flatMap_nil, List.map_nil]; ac_rfl)
theorem V.Wv {h pb pk : Nat} {wv nv pv gv : Value} {A : List LE} {yf yt : Int} {ch : Bool} {u0 u1 u2 u3 u4 u5 u6 u7 u8 u9 ua ub : Value} (h1 : lg s [] A yf yt) (hi : s.inn = false) (H : V w0 w (dW y (.cells (.pointer (some ⟨h, 0, none⟩) :: .pointer (some ⟨pb, 0, none⟩) :: .pointer (some ⟨pk, 0, none⟩) :: wv :: nv :: .int .i64 s.c.place :: .string (kL s.hl s.c.tx s.c.place) :: pv :: gv :: .int .i64 s.c.mode :: .bool s.c.over :: .int .i64 s.c.res :: .bool s.c.run :: u0 :: u1 :: u2 :: u3 :: u4 :: u5 :: u6 :: u7 :: u8 :: u9 :: ua :: ub :: .bool s.given :: .bool s.minus :: .int .i64 s.arg :: .int .i64 s.CX :: .int .i64 s.Yk :: .int .i64 s.Yl :: .int .i64 s.um :: .bool false :: .int .i64 s.cls :: .int .i64 yf :: .int .i64 yt :: .bool s.argues :: .bool s.killed :: .bool s.kU :: .slice none 0 0 :: .bool s.whole :: .bool ch :: []).toArray 174 (0, 0)) • ql pb s.c.L s.c.pt s.c.mark • oq pk s.c.E s.c.at_ • xY 1 wv (s.hl.length + 1) (strs (qc s.hl)) • Row 9 1 nv (s.hl.length + 1) (strs (xW s.hl s.c.tx)) • oP .i64 pv (A.map (·.1)) • xY 1 gv A.length (A.map (·.2.1)) • uh A • kC h s.hl s.base s.most • F)) (hu : ([u0, u1, u2, u3, u4, u5, u6, u7, u8, u9, ua, ub].all fun x => x.oneCell') = true) : V w0 w (qW y s • F) := by
  refine V.Wu (y := y) (h := h) (pb := pb) (pk := pk) (wv := wv) (nv := nv) (pv := pv) (gv := gv) (ch := ch) (u0 := u0) (u1 := u1) (u2 := u2) (u3 := u3) (u4 := u4) (u5 := u5) (u6 := u6) (u7 := u7) (u8 := u8) (u9 := u9) (ua := ua) (ub := ub) h1 ?_
  rw [hi]
  exact (H.Hf (hl := s.hl) (c := s.was) (u := [u0, u1, u2, u3, u4, u5, u6, u7, u8, u9, ua, ub]) hu).of_eq (by ac_rfl)
theorem Nw (H : V w0 w (qW y s • F)) : iE prog 61 #[.pointer (some ⟨y, 0, none⟩)] w fun v w' => v = .int .i64 s.BQ ∧ V w0 w' (qW y s.aV • F) := by
 refine iZ func61 ntmps61 ?_
 refine jQ O (aN (aN ?_))
 obtain ⟨h_y, MW, MX, MZ, Na, X3, X5, A_y, X6, X7, SN, SQ, SS, Nb, Nc, Nh, Nj, Nk, Nl, Np, Nq, Nr, Ns, Nu, Nv, sD, FZ, yw⟩ := (H).SK
 have hE9 := sD.rx.1.2
 have hy9 := @Oi (xW s.hl s.c.tx)
 obtain ⟨hv9, hk9, _⟩ := (yw.f9).V7
 have hhl := hk9.1
 have o1 := (yw.f6).kR.one
 have o2 := (yw.f7).qP.one
 refine aC (nG O O (bJ 32 aQ O aP O (fM bY O (yw).get.2 O (jB O (fun h1 => ?_) (fun h1 => ?_)))))
 ·(try simp only [aA] at h1)
  have hin := h1
  refine jM O (aB (dL results61 O ?_))
  have Xc := yw.f12.f12.f12.f12.f12.f12.f12.f12.f12.f12.f12.f12
  have VG := V.vY (s := s) sD Xc
  exact ⟨by unfold bn.BQ; rw [if_pos hin], by rw [KR hin]; exact VG⟩
 ·(try simp only [aA] at h1)
  have hin := h1
  refine gG (bQ O (dK O (bJ 32 aQ O aP O (aJ (mQ 32 yw aP) ?_))))
  rintro _ w5 H5
  refine rG O (nG O O (bJ 1 aQ O fO O (Z (qx 1 (xs := [_, _, _, _, _, _, _, _, _, _, _, _]) dI O fO O O (H5).get.2 O) (dS O func115 (SV H5.f4.f5.f5.f5 (by assumption) (by assumption) (by omega) (by assumption) (by assumption)) ?_))))
  rintro _ w6 ⟨qb6, qk6, nv6, rfl, H6⟩
  refine dK O (bJ 13 aQ O fO O (aJ (dB 13 (l' := [_, _, _, _, _, _, _, _, _, _, _, _, _, _, _, _, _, _, _, _, _, _, _, _, _, _, _, _, _, _, _, _, _, _, _, _, _, _, _, _, _, _]) (us := [_, _, _, _, _, _, _, _, _, _, _, _]) H6.f8 fO O O O (aG (aG (aZ (by first | rfl | exact Rd.one ((H6.f7).qP)) (aZ (by first | rfl | exact Rd.one ((H6.f3).aS)) (aG (aG (aZ (by first | rfl | exact Rd.one ((H6.f9).kR)) (aZ (by first | rfl | exact Rd.one ((H6.f10).qP)) (aG (aG (aG (aG bU)))))))))))) O O) ?_))
  rintro _ w7 H7
  refine rG O (jR O O (dK O (bJ 33 aQ O ay O (aJ (mQ 33 H7 ay) ?_))))
  rintro _ w8 H8
  refine dK O (bJ 34 aQ O ay O (aJ (mQ 34 H8 ay) ?_))
  rintro _ w9 H9
  refine dK O (bJ 35 aQ O ay O (aJ (mQ 35 H9 ay) ?_))
  rintro _ w10 pR
  refine rG O (jR O O (jR O O (dK O (bJ 36 aQ O aP O (aJ (mQ 36 pR aP) ?_)))))
  rintro _ Fv tq
  refine dK O (bJ 37 aQ O aP O (aJ (mQ 37 tq aP) ?_))
  rintro _ w12 vZ
  refine dK O (bJ 38 aQ O aP O (aJ (mQ 38 vZ aP) ?_))
  rintro _ Qh wo
  refine dK O (bJ 40 aQ O aP O (aJ (mQ 40 wo aP) ?_))
  rintro _ OQ AZ
  refine dK O (bJ 41 aQ O aP O (aJ (mQ 41 AZ aP) ?_))
  rintro _ QE zU
  refine rG O (dK O (bJ 39 aQ O bP O (aJ (mQ 39 zU bP) ?_)))
  rintro _ w16 vw
  refine iJ (jM O (dL results61 O ?_))
  have hin' : s.inn = false := by simpa using hin
  have Um := vw.f8
  have Un := Um.aak
  have agN := Un.f10
  have agO := agN.abQ
  have ady := agO.f12
  have adz := ady.aak
  have ZM := adz.f14
  have ZN := ZM.abR
  have adI := ZN.f2.f4.f6.f12.f9.f12.f12
  have adJ := V.abP (c := s.c) sD.Jr sD.placed adI
  have HX := adJ.f11.right.f11.right.f11.right.f10.f3.f4.f5.f10.f7.f10.f10.f10
  rw [show s.CX = s.c.last from if_neg (by simp [hin']), show s.Yk = s.c.fr from if_neg (by simp [hin']), show s.Yl = s.c.to from if_neg (by simp [hin'])] at HX
  exact ⟨by unfold bn.BQ; rw [if_neg (by simp [hin'])], by rw [uX hin']; exact V.Wu (uX hin' ▸ sD.begin hin') HX⟩
end
end Go.Proofs.YtpdeedplgmbopaaGreatDoor
end
section
namespace Go.Proofs.YtpdeedplgmbopaaGreatDoor
open Go.RowKit
section
variable {w0 w : World} {F : HP} {p y h : Nat} {s : bn} {l dl il : List Int} {v d i : Value} {a x j k : Int}
end
section
variable {w0 w : World} {F : HP} {p y h : Nat} {s : bn} {l : List Int} {v : Value} {j k : Int}
theorem lg.cls {es : List fA} {A : List LE} {yf yt : Int} (h : lg s es A yf yt) (c : Int) (hc : c ≠ 2) : lg { s with cls := c } es A yf yt :=
  ⟨h.ok, ⟨h.rx.1, h.rx.2.1, fun _ h2 => absurd h2 hc⟩, h.says, h.Jr, h.placed, h.Xt⟩
end
end Go.Proofs.YtpdeedplgmbopaaGreatDoor
end
section
namespace Go.Proofs.YtpdeedplgmbopaaGreatDoor
open Go.RowKit
open _root_.Go.Proofs.Tryz
theorem EH.one {I : Hp} {sz n : Nat} {v : Value} {xs : List Value} (h : EH I sz v n xs) : v.oneCell' = true := by obtain ⟨_, a, c, rfl, _⟩ := h; rfl
section
variable {w0 w : World} {F : HP} {p y h : Nat} {s : bn} {u v lv : Value} {es les : List fA} {gs : List (Value × List fA)} {on : Bool}
theorem V.aar (H : V w0 w (pY gs • F)) : ∀ x ∈ gs.map (·.1), x.oneCell' = true := by
  obtain ⟨I, h, hI⟩ := H.uF
  intro x hx
  obtain ⟨g, hg, rfl⟩ := List.mem_map.1 hx
  obtain ⟨k, hk, rfl⟩ := List.getElem_of_mem hg
  have := h k hk
  rw [List.getD_eq_getElem?_getD, List.getElem?_eq_getElem hk] at this
  exact this.1.one
theorem V.abS (H : V w0 w (EP v es • F)) : V w0 w (lW es • EP v es • F) := H.vF.F7 (qN (fun I h => h.2) _)
theorem aas {α : Type _} (l : List α) (u : α) (h : l ≠ []) : l.set (l.length - 1) u = l.dropLast ++ [u] := by
  have e := List.dropLast_concat_getLast h
  have hl : l.dropLast.length = l.length - 1 := List.length_dropLast
  conv => lhs; rw [← e]
  rw [List.set_append_right _ _ (by simp)]
  simp
theorem V.X8 (hg : gs ≠ []) (H : V w0 w (Row 80 1 v gs.length ((gs.map (·.1)).set (gs.length - 1) u) • EP u es • pY gs • F)) : V w0 w (glK v (gs.dropLast ++ [(u, es)]) • F) := by
  have h0 : 0 < gs.length := List.length_pos_iff.2 hg
  have H1 := (H.f3).QJ (gs.length - 1)
  rw [← List.dropLast_eq_take] at H1
  have hm : (gs.map (·.1)).set (gs.length - 1) u = gs.dropLast.map (·.1) ++ [u] := by
    have := aas (gs.map (·.1)) u (by simpa using hg)
    rw [List.length_map] at this
    rw [this, List.map_dropLast]
  have hl : gs.length = gs.dropLast.length + 1 := by rw [List.length_dropLast]; omega
  rw [hm, hl] at H1
  exact (V.uT (H1.f2.f3.f2)).Eb
theorem Oz (gs : List (Value × List fA)) (x : Value × List fA) : Ea (gs ++ [x]) = Ea gs ++ [x.2.map fA.says] := by unfold Ea; rw [List.map_append]; rfl
theorem SX (hG : Ea gs = s.here) (hne : gs ≠ []) (hl : gs.getD (gs.length - 1) default = (lv, les)) (hes : es.map fA.says = s.put) (hp : s.put ≠ []) : Ea (gs.dropLast ++ [(u, les ++ es)]) = s.jg true := by
  have h0 : s.here ≠ [] := by rw [← hG]; unfold Ea; simpa using hne
  have h1 : s.here.getLast h0 = les.map fA.says := by
    have e : s.here.getLast? = some (les.map fA.says) := by
      rw [← hG]; unfold Ea
      rw [List.getLast?_map, List.getLast?_eq_getElem?]
      rw [List.getD_eq_getElem?_getD, List.getElem?_eq_getElem (by have := List.length_pos_iff.2 hne; omega)] at hl
      rw [List.getElem?_eq_getElem (by have := List.length_pos_iff.2 hne; omega)]
      simp only [Option.getD_some] at hl
      rw [hl]; rfl
    rw [List.getLast?_eq_some_getLast h0] at e
    exact Option.some.inj e
  unfold bn.jg
  rw [if_neg hp, if_pos rfl, List.getLast?_eq_some_getLast h0, Oz]
  have h2 : Ea gs.dropLast = s.here.dropLast := by rw [← hG]; unfold Ea; rw [List.map_dropLast]
  rw [h1, h2]
  show _ ++ [(les ++ es).map fA.says] = _
  rw [List.map_append, hes]
theorem LU (hG : Ea gs = s.here) (hes : es.map fA.says = s.put) (hp : s.put ≠ []) (h : ¬ (on = true ∧ 0 < gs.length)) : Ea (gs ++ [(u, es)]) = s.jg on := by
  unfold bn.jg
  rw [if_neg hp, Oz, hG]
  show s.here ++ [es.map fA.says] = _
  rw [hes]
  cases on with
  | false => rw [if_neg (by decide)]
  | true =>
    have h0 : s.here = [] := by
      have : gs = [] := List.eq_nil_of_length_eq_zero (by by_cases hx : 0 < gs.length; exact absurd ⟨rfl, hx⟩ h; omega)
      rw [← hG, this]; rfl
    rw [if_pos rfl, h0]; rfl
theorem CB {x0 x1 x2 x3 x4 x6 x9 x10 x11 x12 yA x14 x15 x16 x17 x18 x19 x20 x21 yV x23 x24 x25 zo x27 x28 x29 x30 x31 x32 Ad x34 Qs Qu Qv x38 x40 x41 : Value} {pv gv nw : Value} {A : List LE} (hA : Jr A = s.c.un) (hP : yu s.hl A) (hS : es.map fA.says = s.put) (hok : mM s) (hx : He s.c) (hhl : s.hl.length ≤ 4096)
  (H : V w0 w (dW y (.cells (x0 :: x1 :: x2 :: x3 :: x4 :: .int .i64 s.c.place :: x6 :: pv :: gv :: x9 :: x10 :: x11 :: x12 :: yA :: x14 :: x15 :: x16 :: x17 :: x18 :: x19 :: x20 :: x21 :: yV :: x23 :: x24 :: x25 :: zo :: x27 :: x28 :: x29 :: x30 :: x31 :: x32 :: Ad :: x34 :: Qs :: Qu :: Qv :: x38 :: nw :: x40 :: x41 :: []).toArray 174 (0, 0)) • oP .i64 pv (A.map (·.1)) • xY 1 gv A.length (A.map (·.2.1)) • uh A • Row 189 3 nw es.length (es.flatMap fA.enc) • lW es • F)) :
  iE prog 116 #[.pointer (some ⟨y, 0, none⟩), .bool on] w fun _ w' => ∃ pv' gv' A' nw', Jr A' = (s.fU on).c.un ∧ yu s.hl A' ∧
   V w0 w' (dW y (.cells (x0 :: x1 :: x2 :: x3 :: x4 :: .int .i64 s.c.place :: x6 :: pv' :: gv' :: x9 :: x10 :: x11 :: x12 :: yA :: x14 :: x15 :: x16 :: x17 :: x18 :: x19 :: x20 :: x21 :: yV :: x23 :: x24 :: x25 :: zo :: x27 :: x28 :: x29 :: x30 :: x31 :: x32 :: Ad :: x34 :: Qs :: Qu :: Qv :: x38 :: nw' :: x40 :: x41 :: []).toArray 174 (0, 0)) • oP .i64 pv' (A'.map (·.1)) • xY 1 gv' A'.length (A'.map (·.2.1)) • uh A' • Row 189 3 nw' 0 [] • lW [] • F) := by
 have ahQ := X0 hx
 have hput := hok.2.2.2.2.1
 have hsp := pz s.here s.put
 have hpl := U9 hP (by omega)
 have hlp : es.length = s.put.length := by rw [← hS]; simp
 refine oV func116 ntmps116 ?_
 refine aN (bQ O (dK O (bJ 39 aQ O bP O (fM aW O (H).get.2 O (Z (kK ((H.f5).aS) aW O) (Z (dX O O) (jB O (fun h1 => ?_) (fun h1 => ?_))))))))
 ·(try simp only [aA] at h1)
  have he : es = [] := List.eq_nil_of_length_eq_zero (by omega)
  have hp : s.put = [] := List.eq_nil_of_length_eq_zero (by omega)
  refine nI (aB (we0 results116 ?_))
  subst he
  exact ⟨pv, gv, A, nw, by rw [Cc hp]; exact hA, hP, H.f6.f6.f6.f6.f6.f6⟩
 ·(try simp only [aA] at h1)
  have hp : s.put ≠ [] := fun hx => h1 (by rw [hlp, hx]; rfl)
  refine gG (bQ O (dK O (bJ 1 aQ O fO O (bJ 2 dI O pJ O (bJ 2 iI O ay O (fM aH O (H).get.2 O (fG O (bQ O (dK O (bJ 1 aQ O fO O (bJ 6 dI O sizeOf170 O (bT O (dS O func155 (Vf H.f4.f4.f4.f4) ?_)))))))))))))
  rintro u1 w1 ⟨gs1, agP, H1⟩
  obtain ⟨gu, rfl⟩ : ∃ q, q = u1 := ⟨_, rfl⟩
  obtain ⟨gs, rfl⟩ : ∃ q, q = gs1 := ⟨_, rfl⟩
  have hG : Ea gs = s.here := by rw [agP, hA]; rfl
  have hgl : gs.length = s.here.length := by rw [← hG]; exact (List.length_map _).symm
  have Ho2 := H1.f2.f2
  have Hc3 := Ho2
  have hone := (Hc3.f2).aar
  refine fG O (jQ O (bQ O (bT O (kD (iy (Hc3.jk none) bK IY O O O ((Hc3).qP) (by assumption) (by omega) (by omega)) ?_))))
  rintro l4 w4 H4
  have HX4 := H4
  rw [Nat.zero_add, List.nil_append] at HX4
  refine fG O ?_
  refine kT [(0, _), (4, _)] (fun (ou : Value) => [(6, ou)]) (fun (ou : Value) W => ∃ gs, Ea gs = s.jg on ∧ V w0 W (xY 1 ou gs.length (gs.map (·.1)) • pY gs • dW y (.cells (x0 :: x1 :: x2 :: x3 :: x4 :: .int .i64 s.c.place :: x6 :: pv :: gv :: x9 :: x10 :: x11 :: x12 :: yA :: x14 :: x15 :: x16 :: x17 :: x18 :: x19 :: x20 :: x21 :: yV :: x23 :: x24 :: x25 :: zo :: x27 :: x28 :: x29 :: x30 :: x31 :: x32 :: Ad :: x34 :: Qs :: Qu :: Qv :: x38 :: nw :: x40 :: x41 :: []).toArray 174 (0, 0)) • oP .i64 pv (A.map (·.1)) • xY 1 gv A.length (A.map (·.2.1)) • uh A • F)) uJ ?_ ?_
  ·rintro ou w5 ⟨gs, hG, HJ⟩
   dsimp only [List.cons_append, List.nil_append]
   refine bQ O (dK O (bJ 1 aQ O fO O (bJ 6 dI O sizeOf170 O (jR O O (dS O func156 (SL HJ.f2.f2.f6.f6.f6.f6 (by assumption)) ?_)))))
   rintro _ w6 ⟨pv6, gv6, H6⟩
   refine iJ (aC (nG O O (bJ 39 aQ O bP O (aJ (mQ 39 H6 bP) ?_))))
   rintro _ w7 H7
   refine bW (lM (.inr O) results116 ?_)
   have HQ := (H7.f4.f4.f4.f4).uG none |>.edL
   refine ⟨_, _, _, _, ?_, Ve hP ⟨hok.1.1, hok.1.2.1⟩, HQ.f6.f6.f6.f6⟩
   rw [nU hp, abM, hA, hG]; rfl
  ·skip
   refine bQ O (jG O (fun h2 => ?_) (fun h2 => ?_))
   ·(try simp only [aA] at h2)
    refine bg (bT O (bg (Z (kK ((HX4).aS) bK O) (bg (Z (dY O O) (iU O O (jB O (fun h3 => ?_) (fun h3 => ?_))))))))
    ·(try simp only [aA] at h3)
     refine aN ?_
     have agQ : on = true := by first | assumption | (simp_all; done)
     have hne : gs ≠ [] := fun hx => by subst hx; simp at *
     refine aC (fG O (bQ O (jR O O (Z (kK ((HX4).aS) bK O) (Z (iV O O (by omega)) ?_)))))
     obtain ⟨bl4, ol4, cl4, el4⟩ := Rd.rM ((HX4).aS) (by omega)
     cases el4
     refine Z (dP bK bP O O (by omega)) ?_
     refine Z (fK (dA aW O) O (by first | exact Rd.ni ((HX4).aS) (by omega) | exact Rd.yc ((HX4).aS) (by omega) | exact Rd.yx ((HX4).aS) (by omega))) ?_
     rw [show (gs.map (·.1)).getD (((gs.length : Nat) : Int) - 1).toNat undef = (gs.getD (gs.length - 1) default).1 from by have := List.length_pos_iff.2 hne; rw [show (((gs.length : Nat) : Int) - 1).toNat = gs.length - 1 from by omega]; simp [List.getD_eq_getElem?_getD, show gs.length - 1 < gs.length from by omega]]
     obtain ⟨gl, zQ, hg⟩ : ∃ gl zQ, gs.getD (gs.length - 1) default = (gl, zQ) := ⟨_, _, rfl⟩
     rw [hg]
     have Ho8 := HX4.f3
     have Yn := Ho8.Jz (by have := List.length_pos_iff.2 hne; omega) hg
     have ahh := (Yn).Y7
     have hgm : zQ.map fA.says ∈ s.here := by rw [← hG]; exact List.mem_map.2 ⟨(gl, zQ), by rw [← hg]; exact yX (by have := List.length_pos_iff.2 hne; omega), rfl⟩
     have hgb := JA hgm
     rw [List.length_map] at hgb
     have ahR : zQ.length ≤ 16384 := by unfold gV at hput; omega
     refine kD (iy (Yn.jk none) aW AB O O O ((Yn).yg) (by assumption) (by omega) (by omega)) ?_
     rintro l10 w10 pR
     have HX7 := pR
     rw [Nat.zero_add, List.nil_append] at HX7
     refine fG O ?_
     have ahi := (HX7.f11).DC
     refine aC (jR O O (Z (jd bK O) (Z (iV O O (by omega)) (jR O O (dK O (bJ 39 aQ O bP O (fM aW O (HX7.f6).get.2 O (kD (iy HX7 aW AB O O O ((HX7.f10).aS) (by assumption) (by omega) (by omega)) ?_))))))))
     rintro l11 Fv tq
     refine Z (dP bK bP O O (by omega)) (aJ (OL 0 tq.f4 bP O O (by first | rfl | exact Rd.one ((tq).aS)) (by omega) (by decide)) ?_)
     rintro _ w12 vZ
     have adt := vZ.f3
     have adu := (adt.abS).f2.right
     have adk := adu.f11.f2.f4
     have adl := V.rU (es := zQ ++ es) (V.deep (V.JD rfl adk))
     have Um := adl.f2
     have HX8 := Um
     rw [show (((gs.length : Nat) : Int) - 1).toNat * 1 + 0 = gs.length - 1 from by omega] at HX8
     have adr := HX8.f3.f3.f3
     have ads := (V.X8 hne adr).Wp
     have hGJ := SX (s := s) (u := l11) hG hne hg hS hp
     rw [← agQ] at hGJ
     refine bW ?_
     refine dw (_) lU uJ (by (try dsimp only); exact ⟨_, hGJ, ads.f3.right.f7.right.f6.f6.f6.f6.f6.f6⟩)
    ·(try simp only [aA] at h3)
     have Zm := HX4.f9.f9
     have Uu := V.rU (v := nw) (es := es) (V.deep Zm)
     have hnj : ¬ (on = true ∧ 0 < gs.length) := by first | omega | simp_all | (intro hx; simp_all; omega)
     refine aC (jR O O (dK O (bJ 39 aQ O bP O (fM aW O (Uu.f5).get.2 O (kD (lq (vs := [_]) Uu bK bP nJ O O O (by decide) (aZ (by first | rfl | exact Rd.one ((Uu).yg)) bU)) ?_)))))
     rintro l22 w22 Jv
     refine kD (iy Jv.f3 bK IY O O O ((Jv).aS) (aZ (by first | rfl | exact Rd.one ((Jv.f2).yg)) bU) (by omega) (by omega)) ?_
     rintro l23 w23 CQ
     have agR := CQ.f2.right
     have adI := agR.f4.f3.f3
     have adJ := (V.uT adI).Eb.Wp
     have hGJ := LU (s := s) (on := on) (u := nw) hG hS hp hnj
     refine iK O (bW ?_)
     refine dw (_) lU uJ (by (try dsimp only); exact ⟨_, hGJ, adJ.f3.right.f6.f6.f6.f6.f6.f6⟩)
   ·(try simp only [aA] at h2)
    refine bF (bF (bF (iH O O (iJ (qo ?_)))))
    have agS := HX4.f9.f9
    have adK := V.rU (v := nw) (es := es) (V.deep agS)
    have hnj : ¬ (on = true ∧ 0 < gs.length) := by first | omega | simp_all | (intro hx; simp_all; omega)
    refine aC (jR O O (dK O (bJ 39 aQ O bP O (fM aW O (adK.f5).get.2 O (kD (lq (vs := [_]) adK bK bP nJ O O O (by decide) (aZ (by first | rfl | exact Rd.one ((adK).yg)) bU)) ?_)))))
    rintro l29 w29 Yi
    refine kD (iy Yi.f3 bK IY O O O ((Yi).aS) (aZ (by first | rfl | exact Rd.one ((Yi.f2).yg)) bU) (by omega) (by omega)) ?_
    rintro l30 w30 VB
    have agT := VB.f2.right
    have agU := agT.f4.f3.f3
    have agV := (V.uT agU).Eb.Wp
    have hGJ := LU (s := s) (on := on) (u := nw) hG hS hp hnj
    refine iK O (bW ?_)
    refine dw (_) lU uJ (by (try dsimp only); exact ⟨_, hGJ, agV.f3.right.f6.f6.f6.f6.f6.f6⟩)
end
theorem lg.bad {s : bn} {es : List fA} {A A' : List LE} {yf yt : Int} (h : lg s es A yf yt) (hin : s.inn = true) (hA : _root_.Go.Proofs.YtpdeedplgmbopaaGreatDoor.Jr A' = s.was.un) (hP : yu s.hl A') : lg s.zy [] A' yf yt :=
  ⟨UK h.ok hin, ⟨(h.rx.2.1 hin).1, fun hi => absurd hi (by show ¬ false = true; decide), fun hi => absurd hi (by show ¬ false = true; decide)⟩, rfl, hA, hP, fun hi => absurd hi (by show ¬ false = true; decide)⟩
theorem xX (s : bn) : s.jX = { s with c := { s.c with un := (s.fU (s.typed && s.c.run)).c.un, run := s.typed && (!s.put.isEmpty || s.c.run), last := s.cls, fr := if s.cls = 2 then s.c.fr else 0, to := if s.cls = 2 then s.c.to else 0 }, given := if s.argues = true then s.given else false, minus := if s.argues = true then s.minus else false, arg := if s.argues = true then s.arg else -1, inn := false, put := [] } := by
  unfold bn.jX bn.jh bn.fU
  by_cases ha : s.argues = true
  · by_cases hp : s.put = []
    · by_cases hc : s.cls = 2
      · simp [ha, hp, hc, bn.ru]
      · simp [ha, hp, hc, bn.ru]
    · by_cases hc : s.cls = 2
      · simp [ha, hp, hc, bn.ru, bn.nC, bn.jg, bn.here]
      · simp [ha, hp, hc, bn.ru, bn.nC, bn.jg, bn.here]
  · by_cases hp : s.put = []
    · by_cases hc : s.cls = 2
      · simp [ha, hp, hc, bn.ru]
      · simp [ha, hp, hc, bn.ru]
    · by_cases hc : s.cls = 2
      · simp [ha, hp, hc, bn.ru, bn.nC, bn.jg, bn.here]
      · simp [ha, hp, hc, bn.ru, bn.nC, bn.jg, bn.here]
theorem lg.good {s : bn} {es : List fA} {A A' : List LE} {yf yt : Int} (h : lg s es A yf yt) (hA : _root_.Go.Proofs.YtpdeedplgmbopaaGreatDoor.Jr A' = (s.fU (s.typed && s.c.run)).c.un) (hP : yu s.hl A') : lg s.jX [] A' yf yt := by
  have hok : mM s.jX := by
    have h1 := XY (wX h.ok) (s := s.jh) (by unfold bn.jh; split <;> exact h.rx.1) (s.typed && s.c.run)
    unfold bn.jX
    dsimp only
    split <;> exact h1
  have hx : He (s.fU (s.typed && s.c.run)).c := (XZ h.ok h.rx _).1
  rw [xX] at hok ⊢
  exact ⟨hok, ⟨⟨hx.1, h.rx.1.2⟩, fun hi => absurd hi (by show ¬ false = true; decide), fun hi => absurd hi (by show ¬ false = true; decide)⟩, rfl, hA, hP, fun hi => absurd hi (by show ¬ false = true; decide)⟩
section
variable {w0 w : World} {F : HP} {p y h : Nat} {s : bn} {x : Int}
theorem SY (hin : s.inn = true) (hx : x ≠ 0) (H : V w0 w (qW y s • F)) : iE prog 64 #[.pointer (some ⟨y, 0, none⟩), .int .i64 x] w fun v w' => v = .int .i64 x ∧ V w0 w' (qW y s.zy • F) := by
 refine oV func64 ntmps64 ?_
 refine jQ O (aN (aN ?_))
 obtain ⟨h_y, MW, MX, MZ, Na, X3, X5, A_y, X6, X7, SN, SQ, SS, Nb, Nc, Nh, Nj, Nk, Nl, Np, Nq, Nr, Ns, Nu, Nv, sD, FZ, yw⟩ := (H).SK
 have HI := yw
 rw [hin] at HI
 obtain ⟨qb, qk, qw, qn, qp, qg, qA, hu, hqA, hqP, hu1, HW⟩ := (HI.f12).agL
 simp only [IE, List.cons.injEq, and_true] at hu
 obtain ⟨rfl, rfl, rfl, rfl, rfl, rfl, rfl, rfl, rfl, rfl, rfl, rfl⟩ := hu
 refine aC (nG O O (bJ 32 aQ O aP O (fM bY O (HW.f8).get.2 O (Z (lJ O) (iJ (Qg O (fun h1 => ?_)))))))
 (try simp only [aA] at h1)
 refine gG (bQ O (dK O (bJ 32 aQ O aP O (aJ (mQ 32 HW.f8 aP) ?_))))
 rintro _ w2 H2
 refine qQ (bQ O (Z (ig O O) (jB O (fun h2 => ?_) (fun h => by exfalso; (try simp only [aA] at h); exact hx h))))
 (try simp only [aA] at h2)
 refine bQ O (nG O O (bJ 13 aQ O fO O (Z (qx 13 (xs := [_, _, _, _, _, _, _, _, _, _, _, _]) dI O fO O O (H2).get.2 O) (dK O (bJ 1 aQ O fO O (aJ (dB 1 (l' := [_, _, _, _, _, _, _, _, _, _, _, _, _, _, _, _, _, _, _, _, _, _, _, _, _, _, _, _, _, _, _, _, _, _, _, _, _, _, _, _, _, _]) (us := [_, _, _, _, _, _, _, _, _, _, _, _]) H2 fO O O O (aG (aG (aZ (by first | rfl | exact Rd.one ((H2.f4).qP)) (aZ (by first | rfl | exact Rd.one ((H2.f5).aS)) (aG (aG (aZ (by first | rfl | exact Rd.one ((H2.f6).kR)) (aZ (by first | rfl | exact Rd.one ((H2.f7).qP)) (aG (aG (aG (aG bU)))))))))))) O O) ?_))))))
 rintro _ w3 H3
 refine rG O (dK O (bJ 39 aQ O bP O (aJ (mQ 39 H3 bP) ?_)))
 rintro _ w4 H4
 refine rG O (dK O (bJ 31 aQ O sizeOf2 O (fM underlying2 O (H4).get.2 O (Z (acM O O) (dK O (bJ 31 aQ O sizeOf2 O (aJ (mQ 31 H4 sizeOf2) ?_)))))))
 rintro _ w5 H5
 refine rG O (jR O O (dK O (bJ 25 aQ O aP O (aJ (mQ 25 H5 aP) ?_))))
 rintro _ w6 H6
 refine dK O (bJ 26 aQ O aP O (aJ (mQ 26 H6 aP) ?_))
 rintro _ w7 H7
 refine dK O (bJ 27 aQ O ay O (aJ (mQ 27 H7 ay) ?_))
 rintro _ w8 H8
 refine rG O (jR O O (dK O (bJ 28 aQ O ay O (aJ (mQ 28 H8 ay) ?_))))
 rintro _ w9 H9
 refine dK O (bJ 29 aQ O ay O (aJ (mQ 29 H9 ay) ?_))
 rintro _ w10 pR
 refine dK O (bJ 30 aQ O ay O (aJ (mQ 30 pR ay) ?_))
 rintro _ Fv tq
 refine rG O (dK O (bJ 39 aQ O bP O (aJ (mQ 39 tq bP) ?_)))
 rintro _ w12 vZ
 refine rG O (fB O (aB (dL results64 O ?_)))
 exact ⟨O, V.Wv (s := s.zy) (sD.bad hin hqA hqP) O vZ.f9.right.f9.right.f9.right.f9.right.f9.right.f9.right.f9.right.f10.right.f10.right.f9.f9.f9.f9.f9.f9.f9.f9.f9 hu1⟩
theorem aat (s : bn) : s.typed = (decide (s.cls = 3) && s.whole) := by unfold bn.typed; congr 1
theorem empty_eq (l : List jm) : (!l.isEmpty) = decide ((l.length : Int) > 0) := by cases l with
  | nil => rfl
  | cons x r => simp
theorem Qe (hin : s.inn = true) (H : V w0 w (qW y s • F)) : iE prog 64 #[.pointer (some ⟨y, 0, none⟩), .int .i64 0] w fun v w' => v = .int .i64 0 ∧ V w0 w' (qW y s.jX • F) := by
  obtain ⟨on, hon⟩ : ∃ on, on = (s.typed && s.c.run) := ⟨_, rfl⟩
  obtain ⟨rn, hrn⟩ : ∃ rn, rn = (s.typed && (!s.put.isEmpty || s.c.run)) := ⟨_, rfl⟩
  have Rx := hon
  have Hl := hrn
  rw [aat] at Rx Hl
  rw [empty_eq] at Hl
  refine oV func64 ntmps64 ?_
  obtain ⟨h_y, MW, MX, MZ, Na, X3, X5, A_y, X6, X7, SN, SQ, SS, Nb, Nc, Nh, Nj, Nk, Nl, Np, Nq, Nr, Ns, Nu, Nv, sD, FZ, yw⟩ := (H).SK
  have HP9 := yw
  rw [← FZ] at HP9
  have aau := sD.Jr
  have hplA := sD.placed
  have Vg := sD.says
  have adL := sD.ok
  have hxA := sD.rx.1
  have adM : s.hl.length ≤ 4096 := by obtain ⟨hv9, hk9, _⟩ := (HP9.f9).V7; exact hk9.1
  have hu1 := XW (HP9.f12)
  refine jQ O (aN (bQ O (dK O (bJ 32 aQ O aP O (fM bY O (HP9).get.2 O (Z (lJ O) (jB O (fun h => by exfalso; (try simp only [aA] at h); simp [hin] at h) (fun h1 => ?_))))))))
  (try simp only [aA] at h1)
  refine gG (bQ O (dK O (bJ 32 aQ O aP O (aJ (mQ 32 HP9 aP) ?_))))
  rintro _ w2 H2
  refine qQ (bQ O (Z (ig O O) (iJ (Qg O (fun h2 => ?_)))))
  (try simp only [aA] at h2)
  refine gG (bQ O (dK O (bJ 33 aQ O ay O (fM aH O (H2).get.2 O (Z (dX O O) (fG O (bQ O (dK O (bJ 39 aQ O bP O (fM aW O (H2).get.2 O (Z (kK ((H2.f10).aS) aW O) (Z (dY O O) (fG O ?_)))))))))))))
  refine kT [(0, _), (5, _), (6, _)] (fun (_ : Unit) => []) (fun (_ : Unit) W => ∃ pv2 gv2 A2 nw2, Jr A2 = (s.fU on).c.un ∧ yu s.hl A2 ∧ V w0 W (dW y (.cells (.pointer (some ⟨h_y, 0, none⟩) :: .pointer (some ⟨MW, 0, none⟩) :: .pointer (some ⟨MX, 0, none⟩) :: MZ :: Na :: .int .i64 s.c.place :: .string (kL s.hl s.c.tx s.c.place) :: pv2 :: gv2 :: .int .i64 s.c.mode :: .bool s.c.over :: .int .i64 s.c.res :: .bool s.c.run :: Nb :: Nc :: Nh :: Nj :: Nk :: Nl :: Np :: Nq :: Nr :: Ns :: Nu :: Nv :: .bool s.given :: .bool s.minus :: .int .i64 s.arg :: .int .i64 s.CX :: .int .i64 s.Yk :: .int .i64 s.Yl :: .int .i64 s.um :: .bool false :: .int .i64 s.cls :: .int .i64 SN :: .int .i64 SQ :: .bool s.argues :: .bool s.killed :: .bool s.kU :: nw2 :: .bool s.whole :: .bool SS :: []).toArray 174 (0, 0)) • oP .i64 pv2 (A2.map (·.1)) • xY 1 gv2 A2.length (A2.map (·.2.1)) • uh A2 • Row 189 3 nw2 0 [] • lW [] • ql MW s.c.L s.c.pt s.c.mark • oq MX s.c.E s.c.at_ • xY 1 MZ (s.hl.length + 1) (strs (qc s.hl)) • Row 9 1 Na (s.hl.length + 1) (strs (xW s.hl s.c.tx)) • kC h_y s.hl s.base s.most • EK s.inn s.hl s.was [Nb, Nc, Nh, Nj, Nk, Nl, Np, Nq, Nr, Ns, Nu, Nv] • F)) uK ?_ ?_
  · rintro _ w3 ⟨pv2, gv2, A2, nw2, hl2, hp2, HJ⟩
    dsimp only [List.cons_append, List.nil_append]
    refine kT [(0, _)] (fun (_ : Unit) => []) (fun (_ : Unit) W => V w0 W (dW y (.cells (.pointer (some ⟨h_y, 0, none⟩) :: .pointer (some ⟨MW, 0, none⟩) :: .pointer (some ⟨MX, 0, none⟩) :: MZ :: Na :: .int .i64 s.c.place :: .string (kL s.hl s.c.tx s.c.place) :: pv2 :: gv2 :: .int .i64 s.c.mode :: .bool s.c.over :: .int .i64 s.c.res :: .bool rn :: Nb :: Nc :: Nh :: Nj :: Nk :: Nl :: Np :: Nq :: Nr :: Ns :: Nu :: Nv :: .bool s.given :: .bool s.minus :: .int .i64 s.arg :: .int .i64 s.CX :: .int .i64 s.Yk :: .int .i64 s.Yl :: .int .i64 s.um :: .bool false :: .int .i64 s.cls :: .int .i64 SN :: .int .i64 SQ :: .bool s.argues :: .bool s.killed :: .bool s.kU :: nw2 :: .bool s.whole :: .bool SS :: []).toArray 174 (0, 0)) • oP .i64 pv2 (A2.map (·.1)) • xY 1 gv2 A2.length (A2.map (·.2.1)) • uh A2 • Row 189 3 nw2 0 [] • lW [] • ql MW s.c.L s.c.pt s.c.mark • oq MX s.c.E s.c.at_ • xY 1 MZ (s.hl.length + 1) (strs (qc s.hl)) • Row 9 1 Na (s.hl.length + 1) (strs (xW s.hl s.c.tx)) • kC h_y s.hl s.base s.most • EK s.inn s.hl s.was [Nb, Nc, Nh, Nj, Nk, Nl, Np, Nq, Nr, Ns, Nu, Nv] • F)) lU ?_ ?_
    · rintro _ w4 HJ2
      dsimp only [List.cons_append, List.nil_append]
      refine bQ O (jR O O (nG O O (bJ 33 aQ O ay O (fM aH O (HJ2).get.2 O (dK O (bJ 28 aQ O ay O (aJ (mQ 28 HJ2 ay) ?_)))))))
      rintro _ w5 H5
      refine dK O (bJ 29 aQ O ay O (aJ (mQ 29 H5 ay) ?_))
      rintro _ w6 H6
      refine dK O (bJ 30 aQ O ay O (aJ (mQ 30 H6 ay) ?_))
      rintro _ w7 H7
      refine qQ (bQ O (dK O (bJ 33 aQ O ay O (fM aH O (H7).get.2 O (Z (dX O O) (jB O (fun h3 => ?_) (fun h3 => ?_)))))))
      · (try simp only [aA] at h3)
        have hcT : s.cls = 2 := h3
        obtain ⟨rfl, rfl⟩ := sD.Xt hin (sD.rx.2.2 hin hcT)
        have acC := H7.drew
        have wZ := V.kp (acC.f12.f12.f12.f12.f12.f12.f12.f12.f12.f12.f12.f12)
        refine yH [5, 9] wZ O (iQ 0 O wZ O (iQ 1 O wZ O (iQ 2 O wZ O (jU 3 O wZ O (gU 4 O wZ 34 aQ O ay O (jO 5 O wZ (fun W hW => jV aH O ((Kp.h hW)).get.2 O) (iQ 6 O wZ O (jU 7 O wZ O (gU 8 O wZ 35 aQ O ay O (jO 9 O wZ (fun W hW => jV aH O ((Kp.h hW)).get.2 O) (jU 10 O wZ O (gU 11 O wZ 29 aQ O ay O ?_))))))))))))
        refine gB 12 O (by kernel_rfl) (mQ 29 acC ay) ?_
        rintro _ w8 H8
        have Ie := V.kp (H8.f12.f12.f12.f12.f12.f12.f12.f12.f12.f12.f12.f12)
        refine iG Ie (by kernel_rfl) ?_
        refine jU 13 O Ie O (gU 14 O Ie 30 aQ O ay O ?_)
        refine gB 15 O (by kernel_rfl) (mQ 30 H8 ay) ?_
        rintro _ w9 H9
        have Ua := V.kp (H9.f12.f12.f12.f12.f12.f12.f12.f12.f12.f12.f12.f12)
        refine iG Ua (by kernel_rfl) ?_
        refine qV (aX (aN (bQ O (dK O (bJ 36 aQ O aP O (fM bY O (H9).get.2 O (Z (lJ O) (jB O (fun h4 => ?_) (fun h4 => ?_)))))))))
        · (try simp only [aA] at h4)
          have haF : ¬ s.argues = true := by simp_all
          refine aC (jR O O (nG O O (bJ 25 aQ O aP O (aJ (mQ 25 H9 aP) ?_))))
          rintro _ w10 pR
          refine dK O (bJ 26 aQ O aP O (aJ (mQ 26 pR aP) ?_))
          rintro _ Fv tq
          refine dK O (bJ 27 aQ O ay O (aJ (mQ 27 tq ay) ?_))
          rintro _ w12 vZ
          refine iJ (jM O (dL results64 O ?_))
          refine ⟨O, ?_⟩
          rw [hon] at hl2
          have hG := sD.good hl2 hp2
          rw [xX] at hG ⊢
          have HX := vZ.f12.right.f6.f6.f11.f7.f7.f7.f11.f11.f11.f11.f11
          have XI := HX.Hf (hl := s.hl) (c := s.was) hu1
          have HX3 := XI.f12.f12.f12.f12.f12.f12.f12.f12.f12.f12.f12
          first | simp only [if_pos hcT] at hG ⊢ | simp only [if_neg hcF] at hG ⊢
          first | simp only [if_pos haT] at hG ⊢ | simp only [if_neg haF] at hG ⊢
          rw [← hrn] at hG ⊢
          exact V.vY hG HX3
        · (try simp only [aA] at h4)
          have haT : s.argues = true := by simp_all
          refine gG (jM O (dL results64 O ?_))
          refine ⟨O, ?_⟩
          rw [hon] at hl2
          have hG := sD.good hl2 hp2
          rw [xX] at hG ⊢
          have HX := H9.f12.right.f6.f6.f11.f7.f7.f7.f11.f11.f11.f11.f11
          have XI := HX.Hf (hl := s.hl) (c := s.was) hu1
          have HX3 := XI.f12.f12.f12.f12.f12.f12.f12.f12.f12.f12.f12
          first | simp only [if_pos hcT] at hG ⊢ | simp only [if_neg hcF] at hG ⊢
          first | simp only [if_pos haT] at hG ⊢ | simp only [if_neg haF] at hG ⊢
          rw [← hrn] at hG ⊢
          exact V.vY hG HX3
      · (try simp only [aA] at h3)
        have hcF : ¬ s.cls = 2 := h3
        refine gG (aN (bQ O (dK O (bJ 36 aQ O aP O (fM bY O (H7).get.2 O (Z (lJ O) (jB O (fun h5 => ?_) (fun h5 => ?_))))))))
        · (try simp only [aA] at h5)
          have haF : ¬ s.argues = true := by simp_all
          refine aC (jR O O (nG O O (bJ 25 aQ O aP O (aJ (mQ 25 H7 aP) ?_))))
          rintro _ Qh wo
          refine dK O (bJ 26 aQ O aP O (aJ (mQ 26 wo aP) ?_))
          rintro _ OQ AZ
          refine dK O (bJ 27 aQ O ay O (aJ (mQ 27 AZ ay) ?_))
          rintro _ QE zU
          refine iJ (jM O (dL results64 O ?_))
          refine ⟨O, ?_⟩
          rw [hon] at hl2
          have hG := sD.good hl2 hp2
          rw [xX] at hG ⊢
          have HX := zU.f12.right.f6.f6.f11.f7.f7.f7.f11.f11.f11.f11.f11
          have XI := HX.Hf (hl := s.hl) (c := s.was) hu1
          have HX3 := XI.f12.f12.f12.f12.f12.f12.f12.f12.f12.f12.f12
          first | simp only [if_pos hcT] at hG ⊢ | simp only [if_neg hcF] at hG ⊢
          first | simp only [if_pos haT] at hG ⊢ | simp only [if_neg haF] at hG ⊢
          rw [← hrn] at hG ⊢
          exact V.vY hG HX3
        · (try simp only [aA] at h5)
          have haT : s.argues = true := by simp_all
          refine gG (jM O (dL results64 O ?_))
          refine ⟨O, ?_⟩
          rw [hon] at hl2
          have hG := sD.good hl2 hp2
          rw [xX] at hG ⊢
          have HX := H7.f12.right.f6.f6.f11.f7.f7.f7.f11.f11.f11.f11.f11
          have XI := HX.Hf (hl := s.hl) (c := s.was) hu1
          have HX3 := XI.f12.f12.f12.f12.f12.f12.f12.f12.f12.f12.f12
          first | simp only [if_pos hcT] at hG ⊢ | simp only [if_neg hcF] at hG ⊢
          first | simp only [if_pos haT] at hG ⊢ | simp only [if_neg haF] at hG ⊢
          rw [← hrn] at hG ⊢
          exact V.vY hG HX3
    · skip
      refine aC (jR O O (jG O (fun h6 => ?_) (fun h6 => ?_)))
      · (try simp only [aA] at h6)
        refine bg (bT O (bg (dK O (bg (bJ 40 aQ O aP O (bg (fM bY O (HJ).get.2 O (iU O O (jG O (fun h7 => ?_) (fun h7 => ?_))))))))))
        · (try simp only [aA] at h7)
          refine bg (bT O (bg (jG O (fun h8 => ?_) (fun h8 => ?_))))
          · (try simp only [aA] at h8)
            refine bF (bF (bF (bF (bF (bg (iU O O (iU O O (dK O (bJ 1 aQ O fO O (bJ 11 dI O aP O (aJ (mQ 12 HJ aP) ?_)))))))))))
            rintro _ w16 vw
            refine bW ?_
            refine dw (()) ?_ ?_ ?_
            · exact (Sub.nil _)
            · exact lU
            · (try dsimp only)
              first | done | exact (by first | (rw [show rn = true from by rw [Hl]; simp_all; done]; exact vw.f12.f12.f12.f12.f12.f12.f12.f12.f12.f12.f12.f12) | (rw [show rn = false from by rw [Hl]; simp_all; done]; exact vw.f12.f12.f12.f12.f12.f12.f12.f12.f12.f12.f12.f12) | (rw [show rn = s.c.run from by rw [Hl]; simp_all; done]; exact vw.f12.f12.f12.f12.f12.f12.f12.f12.f12.f12.f12.f12))
          · (try simp only [aA] at h8)
            refine bg (bT O (bg (dK O (bg (bJ 1 aQ O fO O (bg (bJ 11 dI O aP O (bg (fM bY O (HJ).get.2 O (bg (iH O O (iU O O (dK O (bJ 1 aQ O fO O (bJ 11 dI O aP O (aJ (mQ 12 HJ aP) ?_))))))))))))))))
            rintro _ YI Dh
            refine bW ?_
            refine dw (()) ?_ ?_ ?_
            · exact (Sub.nil _)
            · exact lU
            · (try dsimp only)
              first | done | exact (by first | (rw [show rn = true from by rw [Hl]; simp_all; done]; exact Dh.f12.f12.f12.f12.f12.f12.f12.f12.f12.f12.f12.f12) | (rw [show rn = false from by rw [Hl]; simp_all; done]; exact Dh.f12.f12.f12.f12.f12.f12.f12.f12.f12.f12.f12.f12) | (rw [show rn = s.c.run from by rw [Hl]; simp_all; done]; exact Dh.f12.f12.f12.f12.f12.f12.f12.f12.f12.f12.f12.f12))
        · (try simp only [aA] at h7)
          refine bF (bF (ng (ng (ng (ng (ng (bF (iH O O (dK O (bJ 1 aQ O fO O (bJ 11 dI O aP O (aJ (mQ 12 HJ aP) ?_))))))))))))
          rintro _ YD EN
          refine bW ?_
          refine dw (()) ?_ ?_ ?_
          · exact (Sub.nil _)
          · exact lU
          · (try dsimp only)
            first | done | exact (by first | (rw [show rn = true from by rw [Hl]; simp_all; done]; exact EN.f12.f12.f12.f12.f12.f12.f12.f12.f12.f12.f12.f12) | (rw [show rn = false from by rw [Hl]; simp_all; done]; exact EN.f12.f12.f12.f12.f12.f12.f12.f12.f12.f12.f12.f12) | (rw [show rn = s.c.run from by rw [Hl]; simp_all; done]; exact EN.f12.f12.f12.f12.f12.f12.f12.f12.f12.f12.f12.f12))
      · (try simp only [aA] at h6)
        refine bF (bF (bF (bF (iH O O (bT O (bF (bF (ng (ng (ng (ng (ng (bF (iH O O (dK O (bJ 1 aQ O fO O (bJ 11 dI O aP O (aJ (mQ 12 HJ aP) ?_))))))))))))))))))
        rintro _ w19 EF
        refine bW ?_
        refine dw (()) ?_ ?_ ?_
        · exact (Sub.nil _)
        · exact lU
        · (try dsimp only)
          first | done | exact (by first | (rw [show rn = true from by rw [Hl]; simp_all; done]; exact EF.f12.f12.f12.f12.f12.f12.f12.f12.f12.f12.f12.f12) | (rw [show rn = false from by rw [Hl]; simp_all; done]; exact EF.f12.f12.f12.f12.f12.f12.f12.f12.f12.f12.f12.f12) | (rw [show rn = s.c.run from by rw [Hl]; simp_all; done]; exact EF.f12.f12.f12.f12.f12.f12.f12.f12.f12.f12.f12.f12))
  · skip
    refine aC (jR O O (jG O (fun h9 => ?_) (fun h9 => ?_)))
    · (try simp only [aA] at h9)
      refine bg (bT O (bg (dK O (bg (bJ 40 aQ O aP O (bg (fM bY O (H2).get.2 O (iU O O (jG O (fun h10 => ?_) (fun h10 => ?_))))))))))
      · (try simp only [aA] at h10)
        refine bg (bT O (bg (dK O (bg (bJ 1 aQ O fO O (bg (bJ 11 dI O aP O (bg (fM bY O (H2).get.2 O (iU O O (dS O func116 (CB aau hplA Vg adL hxA adM H2.f11.f11.f10.f10.f10.f6) ?_)))))))))))
        rintro _ w20 ⟨ahS, ahT, A20, ahU, adN, afm, F9⟩
        have Ec := adN
        have aav := afm
        first
          | rw [show s.c.run = on from by rw [Rx]; simp_all] at Ec
          | rw [show false = on from by rw [Rx]; simp_all] at Ec
        refine bW ?_
        refine dw (()) ?_ ?_ ?_
        · exact (Sub.nil _)
        · exact uK
        · (try dsimp only)
          first | done | exact ⟨_, _, _, _, Ec, aav, F9.f12.f12.f12.f12.f12.f12.f12.f12.f12.f12.f12.f12⟩
      · (try simp only [aA] at h10)
        refine bF (bF (bF (bF (bF (iH O O (dS O func116 (CB aau hplA Vg adL hxA adM H2.f11.f11.f10.f10.f10.f6) ?_))))))
        rintro _ w21 ⟨ahV, ahW, A21, ahX, adO, afn, vO⟩
        have Ec := adO
        have aav := afn
        first
          | rw [show s.c.run = on from by rw [Rx]; simp_all] at Ec
          | rw [show false = on from by rw [Rx]; simp_all] at Ec
        refine bW ?_
        refine dw (()) ?_ ?_ ?_
        · exact (Sub.nil _)
        · exact uK
        · (try dsimp only)
          first | done | exact ⟨_, _, _, _, Ec, aav, vO.f12.f12.f12.f12.f12.f12.f12.f12.f12.f12.f12.f12⟩
    · (try simp only [aA] at h9)
      refine bF (bF (bF (bF (iH O O (bT O (bF (bF (bF (bF (bF (iH O O (dS O func116 (CB aau hplA Vg adL hxA adM H2.f11.f11.f10.f10.f10.f6) ?_))))))))))))
      rintro _ w22 ⟨ahY, ahZ, A22, ah0, adP, afo, Jv⟩
      have Ec := adP
      have aav := afo
      first
        | rw [show s.c.run = on from by rw [Rx]; simp_all] at Ec
        | rw [show false = on from by rw [Rx]; simp_all] at Ec
      refine bW ?_
      refine dw (()) ?_ ?_ ?_
      · exact (Sub.nil _)
      · exact uK
      · (try dsimp only)
        first | done | exact ⟨_, _, _, _, Ec, aav, Jv.f12.f12.f12.f12.f12.f12.f12.f12.f12.f12.f12.f12⟩
theorem S9 (H : V w0 w (qW y s • F)) : iE prog 64 #[.pointer (some ⟨y, 0, none⟩), .int .i64 x] w fun v w' => v = .int .i64 (s.AO x) ∧ V w0 w' (qW y (s.jY x) • F) := by
 by_cases hin : s.inn = true
 ·by_cases hx : x = 0
  ·subst hx
   rw [show s.jY 0 = s.jX from by unfold bn.jY; rw [if_pos hin, if_pos rfl], show s.AO 0 = 0 from by unfold bn.AO; rw [if_pos hin]]
   exact Qe hin H
  ·rw [(Ew hin hx).1, (Ew hin hx).2]
   exact SY hin hx H
 ·have hin' : s.inn = false := by simpa using hin
  rw [show s.jY x = s from by unfold bn.jY; rw [if_neg hin], show s.AO x = 1 from by unfold bn.AO; rw [if_neg hin]]
  refine oV func64 ntmps64 ?_
  refine jQ O (aN (aN ?_))
  obtain ⟨h_y, MW, MX, MZ, Na, X3, X5, A_y, X6, X7, SN, SQ, SS, Nb, Nc, Nh, Nj, Nk, Nl, Np, Nq, Nr, Ns, Nu, Nv, sD, FZ, yw⟩ := (H).SK
  refine aC (nG O O (bJ 32 aQ O aP O (fM bY O (yw).get.2 O (Z (lJ O) (jB O (fun h1 => ?_) (fun h => by exfalso; (try simp only [aA] at h); simp [hin'] at h))))))
  (try simp only [aA] at h1)
  refine jM O (aB (dL results64 O ?_))
  have Xc := yw.f12.f12.f12.f12.f12.f12.f12.f12.f12.f12.f12.f12
  have VG := V.vY (s := s) sD Xc
  exact ⟨O, VG⟩
end
end Go.Proofs.YtpdeedplgmbopaaGreatDoor
end
