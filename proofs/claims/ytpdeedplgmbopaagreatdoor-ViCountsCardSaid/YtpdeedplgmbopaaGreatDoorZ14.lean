import Derived.Test.YtpdeedplgmbopaaGreatDoorZ4
import Derived.Test.YtpdeedplgmbopaaGreatDoorZ11
set_option linter.unusedSimpArgs false
set_option linter.unusedVariables false
/- Texts of mine, joined, their names in short: EdMv EdR EdK. -/
section
namespace Go.Proofs.YtpdeedplgmbopaaGreatDoor
open Go.RowKit
open _root_.Go.Proofs.Tryz
section
variable {w0 w : World} {F : HP} {e p h pr : Nat} {s : bC} {x : Int} {b : Bool}
theorem yV (h : lI s) (L : List Int) (pt mk : Int) : lI (s.kV L pt mk) := h
theorem DU (H : V w0 w (fF e s • F)) : iI prog 30 #[.pointer (some ⟨e, 0, none⟩), .int .i64 x] w fun v w' => v = .int .i64 (s.Dy x) ∧ V w0 w' (fF e (s.qK x) • F) := by
 refine oN func30 ntmps30 ?_
 refine jR O (aO (bT O (dS O func81 (ql H) ?_)))
 rintro _ _ ⟨rfl, rfl⟩
 refine fP O (bT O (Z (iM O O) (jL O (fun h1 => ?_) (fun h1 => ?_))))
 ·(try simp only [aA] at h1)
  obtain ⟨hin, hpe⟩ := Gt h1
  refine bT O (fC O (aB (dK results30 O ?_)))
  rw [hpe]
  exact ⟨by simp [bC.Dy, bC.qK, hin], by rw [show s.qK x = s from by simp [bC.Dy, bC.qK, hin]]; exact H⟩
 ·(try simp only [aA] at h1)
  have hin := DI h1
  refine gQ (aO ?_)
  obtain ⟨yG, yH, yI, yJ, yK, yL, yM, yN, wu, uK, uM, uN, uO, uP, uQ, uS, uT, uU, uV, uX, iD, dG, kW, iO⟩ := (H).Ii
  refine aC (nK O O (bJ 0 ah O aU O (bJ 0 aJ O qO O (fV lN O (iO).get.2 O (bP O (dS O func82 (OH iO.f2) ?_))))))
  rintro _ w3 ⟨rfl, H3⟩
  refine fC O (dK results30 O ?_)
  exact ⟨by simp [bC.Dy, hin], by rw [show s.qK x = s.kV s.c.L (Yt s.c.L.length s.c.pt x) s.c.mark from by simp [bC.qK, hin]]; exact V.iF (yV iD _ _ _) dG H3.f11.f11.f11.f11.f11.f11.f11.f11.f11.f10.f11⟩
theorem Uy (H : V w0 w (fF e s • F)) : iI prog 32 #[.pointer (some ⟨e, 0, none⟩), .int .i64 x] w fun v w' => v = .int .i64 (s.Fq x) ∧ V w0 w' (fF e (s.Fv x) • F) := by
 refine oN func32 ntmps32 ?_
 refine jR O (aO (bT O (dS O func81 (ql H) ?_)))
 rintro _ _ ⟨rfl, rfl⟩
 refine fP O (bT O (Z (iM O O) (jL O (fun h1 => ?_) (fun h1 => ?_))))
 ·(try simp only [aA] at h1)
  obtain ⟨hin, hpe⟩ := Gt h1
  refine bT O (fC O (aB (dK results32 O ?_)))
  rw [hpe]
  exact ⟨by simp [bC.Fq, bC.Fv, hin], by rw [show s.Fv x = s from by simp [bC.Fq, bC.Fv, hin]]; exact H⟩
 ·(try simp only [aA] at h1)
  have hin := DI h1
  refine gQ (aO (bT O (Z (dY O O) (jJ O (fun h2 => ?_) (fun h2 => ?_)))))
  ·(try simp only [aA] at h2)
   refine bF (bF (jh O O (iL (C9 (jP O (aB (dK results32 O ?_)))))))
   have hd : s.Fq x = 1 := by unfold bC.Fq; rw [if_pos hin, if_pos (by omega)]
   exact ⟨by rw [hd], by unfold bC.Fv; rw [hd, if_neg (by decide)]; exact H⟩
  ·(try simp only [aA] at h2)
   refine bg (bP O (bg (Z (gB O O) (ig O O (jL O (fun h3 => ?_) (fun h3 => ?_))))))
   ·(try simp only [aA] at h3)
    refine jP O (aB (dK results32 O ?_))
    have hd : s.Fq x = 1 := by unfold bC.Fq; rw [if_pos hin, if_pos (by omega)]
    exact ⟨by rw [hd], by unfold bC.Fv; rw [hd, if_neg (by decide)]; exact H⟩
   ·(try simp only [aA] at h3)
    refine gQ (aO ?_)
    have hd : s.Fq x = 0 := by unfold bC.Fq; rw [if_pos hin, if_neg (by omega)]
    obtain ⟨yG, yH, yI, yJ, yK, yL, yM, yN, wu, uK, uM, uN, uO, uP, uQ, uS, uT, uU, uV, uX, iD, dG, kW, iO⟩ := (H).Ii
    refine aC (jO O O (jO O O (Z (gB O O) (dL O (bJ 13 ah O aP O (aI (eU 13 iO aP) ?_))))))
    rintro _ w3 H3
    refine dL O (bJ 31 ah O aP O (aI (eU 31 H3 aP) ?_))
    rintro _ w4 H4
    refine dL O (bJ 14 ah O aP O (aI (eU 14 H4 aP) ?_))
    rintro _ w5 H5
    refine rZ O (jO O O (Z (Yc O (by omega)) (Z (Vd O O) (dL O (bJ 15 ah O ay O (aI (eU 15 H5 ay) ?_))))))
    rintro _ w6 H6
    refine iL (jP O (dK results32 O ?_))
    rw [hd]
    refine ⟨O, ?_⟩
    unfold bC.Fv
    rw [if_pos hd]
    exact V.iF (s := { s with given := true, argues := true, minus := decide (x < 0), arg := max x (-x) }) ⟨iD.1, iD.2.1, by dsimp only; omega, iD.2.2.2⟩ dG H6.f11.f11.f11.f11.f11.f11.f11.f11.f11.f11.f11
theorem Rq (H : V w0 w (fF e s • F)) : iI prog 62 #[.pointer (some ⟨e, 0, none⟩), .int .i64 x] w fun v w' => v = .int .i64 (s.tJ x) ∧ V w0 w' (fF e (s.yh x) • F) := by
 refine oN func62 ntmps62 ?_
 refine jR O (aO (bT O (dS O func81 (ql H) ?_)))
 rintro _ _ ⟨rfl, rfl⟩
 refine fP O (bT O (Z (iM O O) (jL O (fun h1 => ?_) (fun h1 => ?_))))
 ·(try simp only [aA] at h1)
  obtain ⟨hin, hpe⟩ := Gt h1
  refine bT O (fC O (aB (dK results62 O ?_)))
  rw [hpe]
  exact ⟨by simp [bC.tJ, bC.yh, hin], by rw [show s.yh x = s from by simp [bC.tJ, bC.yh, hin]]; exact H⟩
 ·(try simp only [aA] at h1)
  have hin := DI h1
  refine gQ (aO (bT O (Z (gB O O) (jJ O (fun h2 => ?_) (fun h2 => ?_)))))
  ·(try simp only [aA] at h2)
   refine bF (bF (jh O O (iL (C9 (jP O (aB (dK results62 O ?_)))))))
   have hd : s.tJ x = 1 := by unfold bC.tJ; rw [if_pos hin, if_pos (by omega)]
   exact ⟨by rw [hd], by unfold bC.yh; rw [hd, if_neg (by decide)]; exact H⟩
  ·(try simp only [aA] at h2)
   refine bg (bP O (bg (Z (dY O O) (ig O O (jL O (fun h3 => ?_) (fun h3 => ?_))))))
   ·(try simp only [aA] at h3)
    refine jP O (aB (dK results62 O ?_))
    have hd : s.tJ x = 1 := by unfold bC.tJ; rw [if_pos hin, if_pos (by omega)]
    exact ⟨by rw [hd], by unfold bC.yh; rw [hd, if_neg (by decide)]; exact H⟩
   ·(try simp only [aA] at h3)
    refine gQ (aO ?_)
    have hd : s.tJ x = 0 := by unfold bC.tJ; rw [if_pos hin, if_neg (by omega)]
    obtain ⟨yG, yH, yI, yJ, yK, yL, yM, yN, wu, uK, uM, uN, uO, uP, uQ, uS, uT, uU, uV, uX, iD, dG, kW, iO⟩ := (H).Ii
    refine aC (jO O O (dL O (bJ 0 ah O aU O (bJ 4 aJ O ay O (aI (eU 4 iO ay) ?_)))))
    rintro _ w3 H3
    refine iL (jP O (dK results62 O ?_))
    rw [hd]
    refine ⟨O, ?_⟩
    unfold bC.yh
    rw [if_pos hd]
    exact V.iF (s := { s with c := { s.c with mode := x } }) iD dG H3.f11.f11.f11.f11.f11.f11.f11.f11.f11.f11.f11
theorem Px (H : V w0 w (fF e s • F)) : iI prog 72 #[.pointer (some ⟨e, 0, none⟩)] w fun v w' => v = .int .i64 s.count ∧ V w0 w' (fF e s • F) := by
 refine jr func72 ntmps72 ?_
 refine jR O (aO (aY (bT O (dS O func65 (rQ H) ?_))))
 rintro _ _ ⟨rfl, rfl⟩
 refine fP O (qH (aO ?_))
 obtain ⟨yG, yH, yI, yJ, yK, yL, yM, yN, wu, uK, uM, uN, uO, uP, uQ, uS, uT, uU, uV, uX, iD, dG, kW, iO⟩ := (H).Ii
 have harg := iD.2.2.1
 refine aC (nK O O (bJ 13 ah O aP O (fV bZ O (iO).get.2 O (Z (lC O) (fP O (bH O (fun h1 => ?_) (fun h1 => ?_)))))))
 ·(try simp only [aA] at h1)
  have hg := h1
  refine jP O (aT (aB (dK results72 O ?_)))
  have QB := iO.f11.f11.f11.f11.f11.f11.f11.f11.f11.f11.f11
  have P7 := V.iF (s := s) iD dG QB
  exact ⟨by unfold bC.count; simp only [*]; first | rfl | (split <;> simp_all <;> omega) | simp_all, P7⟩
 ·(try simp only [aA] at h1)
  have hg := h1
  refine dn (aK (aW (bT O (dL O (bJ 15 ah O ay O (fV aH O (iO).get.2 O (vY O (bT O (Z (gB O O) (jL O (fun h2 => ?_) (fun h2 => ?_)))))))))))
  ·(try simp only [aA] at h2)
   refine aC (vY O (bT O (dL O (bJ 14 ah O aP O (fV bZ O (iO).get.2 O (jL O (fun h3 => ?_) (fun h3 => ?_)))))))
   ·(try simp only [aA] at h3)
    refine bT O (Z (Yc O (by omega)) (fC O (aB (dK results72 O ?_))))
    have YO := iO.f11.f11.f11.f11.f11.f11.f11.f11.f11.f11.f11
    have YP := V.iF (s := s) iD dG YO
    exact ⟨by unfold bC.count; simp only [*]; first | rfl | (split <;> simp_all <;> omega) | simp_all, YP⟩
   ·(try simp only [aA] at h3)
    refine gQ (bT O (fC O (dK results72 O ?_)))
    have YT := iO.f11.f11.f11.f11.f11.f11.f11.f11.f11.f11.f11
    have YU := V.iF (s := s) iD dG YT
    exact ⟨by unfold bC.count; simp only [*]; first | rfl | (split <;> simp_all <;> omega) | simp_all, YU⟩
  ·(try simp only [aA] at h2)
   refine gQ (aO (bT O (dL O (bJ 14 ah O aP O (fV bZ O (iO).get.2 O (jL O (fun h4 => ?_) (fun h4 => ?_)))))))
   ·(try simp only [aA] at h4)
    refine bT O (Z (Yc O (by omega)) (fC O (aB (dK results72 O ?_))))
    have ac5 := iO.f11.f11.f11.f11.f11.f11.f11.f11.f11.f11.f11
    have ac6 := V.iF (s := s) iD dG ac5
    exact ⟨by unfold bC.count; simp only [*]; first | rfl | (split <;> simp_all <;> omega) | simp_all, ac6⟩
   ·(try simp only [aA] at h4)
    refine gQ (bT O (fC O (dK results72 O ?_)))
    have af7 := iO.f11.f11.f11.f11.f11.f11.f11.f11.f11.f11.f11
    have af8 := V.iF (s := s) iD dG af7
    exact ⟨by unfold bC.count; simp only [*]; first | rfl | (split <;> simp_all <;> omega) | simp_all, af8⟩
theorem Py (H : V w0 w (fF e s • F)) : iI prog 73 #[.pointer (some ⟨e, 0, none⟩)] w fun v w' => v = .bool s.given ∧ V w0 w' (fF e s • F) := by
  refine jr func73 ntmps73 ?_
  refine jR O (bT O (dS O func65 (rQ H) ?_))
  rintro _ _ ⟨rfl, rfl⟩
  refine Z (lC O) ?_
  obtain ⟨yG, yH, yI, yJ, yK, yL, yM, yN, wu, uK, uM, uN, uO, uP, uQ, uS, uT, uU, uV, uX, iD, dG, kW, iO⟩ := (H).Ii
  refine xsE O (fun h1 => ?_)
  (try simp only [aA] at h1)
  refine bg (bP O (bg (dL O (bg (bJ 13 ah O aP O (bg (fV bZ O (iO).get.2 O (jh O O (fC O (dK results73 O ?_))))))))))
  have QB := iO.f11.f11.f11.f11.f11.f11.f11.f11.f11.f11.f11
  have P7 := V.iF (s := s) iD dG QB
  exact ⟨O, P7⟩
theorem xE (H : V w0 w (fF e s • F)) : iI prog 28 #[.pointer (some ⟨e, 0, none⟩)] w fun v w' => ∃ u, v = .agg (wM u s.c.pt s.c.mark) ∧ V w0 w' (jW 21 .i32 u s.c.L • fF e s • F) := by
 refine jr func28 ntmps28 ?_
 refine iV (jV (iy (l := [_, _, _]) H zeroValue46 O) ?_)
 rintro _ w1 ⟨b1, rfl, H1⟩
 refine qR (bT O (dS O func65 (rQ H1.f2) ?_))
 rintro _ _ ⟨rfl, rfl⟩
 refine iL (qH (gQ (aO ?_)))
 obtain ⟨yG, yH, yI, yJ, yK, yL, yM, yN, wu, uK, uM, uN, uO, uP, uQ, uS, uT, uU, uV, uX, iD, dG, kW, iO⟩ := (H1.f2).Ii
 refine aC (nK O O (bJ 0 ah O aU O (bJ 0 aJ O qO O (fV lN O (iO).get.2 O (dS O func79 (Gh iO.f2) ?_)))))
 rintro _ w4 ⟨u4, rfl, H4⟩
 refine aI (dw 0 (l' := [_, _, _]) (us := [_, _, _]) H4.f13 sizeOf46 O O O (aX (by first | rfl | exact Rd.one ((H4).aQ)) (aG (aG bQ))) O O) ?_
 rintro _ w5 H5
 refine zkc ?_
 refine rD (.inl O) (Oy results28 O jF O (by rw [Yu]; rfl) (H5).get.2) ?_
 have YO := H5.f13.f13.f13.f13.f13.f13.f13.f13.f13.f12.f13
 have YP := V.iF (s := s) iD dG YO
 exact ⟨_, O, YP.f2.right.f2⟩
end
theorem Bc {L : List Int} {i j : Int} {l : List Int} (h : nX L i j l ≠ 0) : pY L i j l = [] ∧ qc L i j l = [] := by unfold pY qc; rw [if_neg h, if_neg h]; exact ⟨rfl, rfl⟩
theorem aa7 {L : List Int} {i j : Int} {l : List Int} (hL : L.length ≤ 1024) (h : 0 < (pY L i j l).length + (qc L i j l).length) : zq (wC L i j l, pY L i j l, qc L i j l) := by
  by_cases h0 : nX L i j l = 0
  · refine ⟨?_, h, ?_, ?_⟩
    · show 0 ≤ wC L i j l
      unfold wC; rw [if_pos h0]
      unfold nX at h0
      split at h0
      · cases h0
      · omega
    · show (pY L i j l).length ≤ 1024
      unfold pY; rw [if_pos h0]
      simp only [List.length_take, List.length_drop]; omega
    · show (qc L i j l).length ≤ 1024
      unfold qc; rw [if_pos h0]
      unfold nX at h0
      split at h0
      · cases h0
      · split at h0
        · cases h0
        · omega
  · rw [(Bc h0).1, (Bc h0).2] at h
    simp at h
theorem Zz {L : List Int} {i j : Int} {l : List Int} (hL : L.length ≤ 1024) : (pY L i j l).length ≤ 1024 ∧ (qc L i j l).length ≤ 1024 := by
  by_cases h0 : nX L i j l = 0
  · refine ⟨?_, ?_⟩
    · unfold pY; rw [if_pos h0]
      simp only [List.length_take, List.length_drop]; omega
    · unfold qc; rw [if_pos h0]
      unfold nX at h0
      split at h0
      · cases h0
      · split at h0
        · cases h0
        · omega
  · rw [(Bc h0).1, (Bc h0).2]; simp
theorem Gy {s : bC} {x : jl} (h : x.2.1.length + x.2.2.length = 0) : s.sH x = s := by unfold bC.sH; rw [if_pos h]
theorem Iu {s : bC} {x : jl} (h : 0 < x.2.1.length + x.2.2.length) (k : ¬ 16384 ≤ gG s.here s.put) : s.sH x = { s with put := s.put ++ [x] } := by unfold bC.sH; rw [if_neg (by omega), if_neg k]
theorem Iw {s : bC} {x : jl} (h : 0 < x.2.1.length + x.2.2.length) (k : 16384 ≤ gG s.here s.put) : s.sH x = { s.mJ [] with put := [x], c := { (s.mJ []).c with run := false } } := by unfold bC.sH; rw [if_neg (by omega), if_pos k]
theorem oU (G : List (List jl)) (N : List jl) : gG G N = gG G [] + N.length := by unfold gG; simp
theorem VW {s : bC} {x : jl} (h : lI s) (hx : 0 < x.2.1.length + x.2.2.length → zq x) : lI (s.sH x) := by
  by_cases h0 : x.2.1.length + x.2.2.length = 0
  · rw [Gy h0]; exact h
  · have hx' := hx (by omega)
    obtain ⟨h1, h2, h3, h4, h5, h6⟩ := h
    by_cases hf : 16384 ≤ gG s.here s.put
    · rw [Iw (by omega) hf]
      refine ⟨h1, h2, h3, fun e he => by rw [List.mem_singleton.1 he]; exact hx', ?_, ?_⟩
      · show gG (vS s.c.un s.c.place [] s.c.place) [x] ≤ 16384
        rw [iE]; simp [gG]
      · intro k g hg
        have hg' : g ∈ vS s.c.un s.c.place [] k := hg
        by_cases hk : k = s.c.place
        · subst hk; rw [iE] at hg'; cases hg'
        · rw [tC _ _ hk] at hg'; exact h6 k g hg'
    · rw [Iu (by omega) hf]
      refine ⟨h1, h2, h3, fun e he => ?_, ?_, h6⟩
      · rcases List.mem_append.1 he with he | he
        · exact h4 e he
        · rw [List.mem_singleton.1 he]; exact hx'
      · show gG s.here (s.put ++ [x]) ≤ 16384
        rw [OT]; omega
section
variable {w0 w : World} {F : HP} {e p h pr : Nat} {s : bC} {i j x : Int} {b : Bool} {v : Value} {l : List Int}
theorem Lc (H : V w0 w (fF e s • F)) (hr : jE w0 F .i32 v l) : iI prog 188 #[.pointer (some ⟨e, 0, none⟩), .int .i64 i, .int .i64 j, v] w fun v' w' => v' = .int .i64 (s.vT i j l) ∧ V w0 w' (fF e (s.qJ i j l) • F) := by
 refine Ql func188 ntmps188 ?_
 refine jR O (aO (bT O (dS O func81 (ql H) ?_)))
 rintro _ _ ⟨rfl, rfl⟩
 refine fP O (bT O (Z (iM O O) (jL O (fun h1 => ?_) (fun h1 => ?_))))
 ·(try simp only [aA] at h1)
  obtain ⟨hin, hpe⟩ := Gt h1
  refine bT O (fC O (aB (dK results188 O ?_)))
  rw [hpe]
  exact ⟨by simp [bC.vT, bC.qJ, hin], by rw [show s.qJ i j l = s from by simp [bC.vT, bC.qJ, hin]]; exact H⟩
 ·(try simp only [aA] at h1)
  have hin := DI h1
  refine gQ (aO ?_)
  obtain ⟨yG, yH, yI, yJ, yK, yL, yM, yN, wu, uK, uM, uN, uO, uP, uQ, uS, uT, uU, uV, uX, iD, dG, kW, iO⟩ := (H).Ii
  have hL : s.c.L.length ≤ 1024 := by obtain ⟨a, c, xs, f, t, h1, h2, h3, h4, h5, h6, h7, hc1, hc2, hl, H1⟩ := (iO.f2).buf; exact h4
  have hE : s.vT i j l = nX s.c.L i j l := by unfold bC.vT; rw [if_pos hin]
  have hS : s.qJ i j l = (s.kV (sZ s.c.L i j l) (tq s.c.L s.c.pt i j l) (wB s.c.L s.c.mark i j l)).sH (wC s.c.L i j l, pY s.c.L i j l, qc s.c.L i j l) := by unfold bC.qJ; rw [if_pos hin]
  have hln := Zz (i := i) (j := j) (l := l) hL
  have hput : gG s.here s.put ≤ 16384 := iD.2.2.2.2.1
  have hsp : gG s.here s.put = gG (s.c.un s.c.place) [] + s.put.length := oU _ _
  have hok := aa7 (i := i) (j := j) (l := l) hL
  have hno := Bc (L := s.c.L) (i := i) (j := j) (l := l)
  refine aC (nK O O (bJ 0 ah O aU O (bJ 0 aJ O qO O (fV lN O (iO).get.2 O (jO O O (bP O (dS O func202 (Jk iO.f2 (fun W HW => hr _ (HW.right.right.right.right.right.right.right.right.right.right))) ?_)))))))
  rintro _ w3 ⟨d3, s3, rfl, H3⟩
  refine bP O (uf O O (uf O O (jV (iy (l := [_, _, _]) H3 dQ O) ?_)))
  rintro _ w4 ⟨b4, rfl, H4⟩
  refine aI (dw 0 (l' := [_, _, _]) (us := [_, _, _]) H4 cO O O O (aG (aX (by first | rfl | exact Rd.one ((H4.f2).aQ)) (aX (by first | rfl | exact Rd.one ((H4.f3).aQ)) bQ))) O O) ?_
  rintro _ w5 H5
  refine vY O (bT O (Z (dX O O) (jJ O (fun h2 => ?_) (fun h2 => ?_))))
  ·(try simp only [aA] at h2)
   refine bg (bJ 1 bf O dh O (bg (fV aj O (H5).get.2 O (bg (Z (jy ((H5.f2).aQ) aj O) (bg (bJ 2 bf O dh O (bg (fV aj O (H5).get.2 O (bg (Z (jy ((H5.f3).aQ) aj O) (bg (Z (fO O O (by omega)) (bg (Z (dY O O) (jh O O (jL O (fun h3 => ?_) (fun h3 => ?_))))))))))))))))))
   ·(try simp only [aA] at h3)
    have hlen : 0 < (pY s.c.L i j l).length + (qc s.c.L i j l).length := by omega
    refine aO (aO ?_)
    have ac7 := H5.drew
    have Ld := V.kp (ac7.f9.right.f13.f13.f13.f13.f13.f13.f13.f13.f13.f13.f13.f13.f13)
    refine y9 [6] Ld O (iU 0 O Ld O (iU 3 O Ld O (jY 4 O Ld O (iq 5 O Ld 33 ah O bM O (jQ 6 O Ld (fun W hW => kF aV O ((Kp.h hW).f5).get.2 O) (jB 7 O Ld (fun _ => kH ((ac7.f12).aQ) aV O) (nD 1 O (xW O func134 (DJ ac7.f9.f8.f7)) ?_)))))))
    rintro _ w6 ⟨lp6, rfl, H6⟩
    have FC := V.kp (H6.right.f14.f14.f14.f14.f14.f14.f14.f14.f14.f14.f14.f14.f14.f14)
    refine eG FC (fun W hW => (Kp.h hW).right.f13.f13.f13.f13.f13.f13.f8.f13.f9.f13.f13.f13.f13) ?_
    refine nD 2 O (xW O func203 (Ko H6)) ?_
    rintro _ w7 ⟨rfl, H7⟩
    have Dt := V.kp (H7.f15.f15.f15.f15.f15.f15.f15.f15.f15.f15.f15.f15.f15.f15.f15)
    refine eG Dt (fun W hW => (Kp.h hW).right.f14.f14.f14.f14.f14.f14.f14.f14.f14.f14.f14.f14.f14.f14) ?_
    refine jB 8 O Dt (fun _ => fO O O (by omega)) (jB 9 O Dt (fun _ => mX O O) ?_)
    have Ho8 := H7.f2
    have X7 := V.Pg Ho8
    refine ru (aW (bH O (fun h4 => ?_) (fun h4 => ?_)))
    ·(try simp only [aA] at h4)
     have Rt : 16384 ≤ gG (s.kV (sZ s.c.L i j l) (tq s.c.L s.c.pt i j l) (wB s.c.L s.c.mark i j l)).here (s.kV (sZ s.c.L i j l) (tq s.c.L s.c.pt i j l) (wB s.c.L s.c.mark i j l)).put := by show 16384 ≤ gG s.here s.put; omega
     refine bT O (dS O func134 (DJ X7.f3.f3) ?_)
     rintro _ w10 ⟨ahF, rfl, pW⟩
     refine dS O func204 (Kz pW) ?_
     rintro _ FX sW
     have Ph := sW.f2
     have Pj := V.AY Ph
     refine iL (aC (jO O O (dL O (bJ 33 ah O bM O (aI (eU 33 Pj.f2 bM) ?_)))))
     rintro _ P6 Az
     refine dL O (bJ 0 ah O aU O (bJ 10 aJ O aP O (aI (eU 10 Az aP) ?_)))
     rintro _ Qu zI
     refine iL ?_
     have ab4 := zI.drew
     have FM := V.kp (ab4.f14.f14.f14.f14.f14.f14.f14.f14.f14.f14.f14.f14.f14.f14)
     refine y9 [4, 5] FM O (iU 0 O FM O (iU 1 O FM O (jY 2 O FM O (iq 3 O FM 33 ah O bM O (jQ 4 O FM (fun W hW => kF aV O ((Kp.h hW)).get.2 O) (jQ 5 O FM (fun W hW => dM bf O cO O O ((Kp.h hW).f4).get.2) (nD 6 O (uo ab4 aV cO dQ O O O (by decide) (by decide)) ?_)))))))
     rintro l16 w16 uY
     have Dx := V.kp (uY.f15.f15.f15.f15.f15.f15.f15.f15.f15.f15.f15.f15.f15.f15.f15)
     refine eG Dx (fun W hW => (Kp.h hW).right.f14.f14.f14.f14.f14.f14.f14.f14.f14.f14.f14.f14.f14.f14) ?_
     refine nD 7 O (iw (uY.jw none) aV Ak O O O ((uY).aQ) (aG (aX (by first | rfl | exact Rd.one ((uY.f6).aQ)) (aX (by first | rfl | exact Rd.one ((uY.f7).aQ)) bQ))) (by omega) (by omega)) ?_
     rintro l17 Yr EH
     have ZA := EH.f2.right
     have Ku := V.kp (ZA.f15.f15.f15.f15.f15.f15.f15.f15.f15.f15.f15.f15.f15.f15.f15)
     refine gU Ku (by kernel_rfl) ?_
     refine jY 8 O Ku O (iq 9 O Ku 33 ah O bM O ?_)
     refine gy 10 O (by kernel_rfl) (fU 33 (l' := [_, _, _, _, _, _, _, _, _, _, _, _, _, _, _, _, _, _, _, _, _, _, _, _, _, _, _, _, _, _, _, _, _, _]) ZA.f2 bM O O (by first | rfl | exact Rd.one ((ZA).aQ)) O O) ?_
     rintro _ w19 Dl
     have QS := V.kp (Dl.f15.f15.f15.f15.f15.f15.f15.f15.f15.f15.f15.f15.f15.f15.f15)
     refine gU QS (by kernel_rfl) ?_
     refine ru (aW (bT O (fC O (dK results188 O ?_))))
     have X := (Dl.f5.right.f12.right.f12.right.f12.f12.f12.f6.f12.f8.f12.f12.f9.f10.f12.f12).lM.swap.lM.swap
     have X2 := V.AP (es := []) X.J8.f3.f3.f4
     exact ⟨by rw [hE]; rfl, by rw [hS, Iw (x := (wC s.c.L i j l, pY s.c.L i j l, qc s.c.L i j l)) hlen Rt]; exact V.Zd (s := { (s.kV (sZ s.c.L i j l) (tq s.c.L s.c.pt i j l) (wB s.c.L s.c.mark i j l)).mJ [] with put := [(wC s.c.L i j l, pY s.c.L i j l, qc s.c.L i j l)], c := { ((s.kV (sZ s.c.L i j l) (tq s.c.L s.c.pt i j l) (wB s.c.L s.c.mark i j l)).mJ []).c with run := false } }) (Iw (x := (wC s.c.L i j l, pY s.c.L i j l, qc s.c.L i j l)) hlen Rt ▸ VW (yV iD _ _ _) hok) O X2⟩
    ·(try simp only [aA] at h4)
     have Rt : ¬ 16384 ≤ gG (s.kV (sZ s.c.L i j l) (tq s.c.L s.c.pt i j l) (wB s.c.L s.c.mark i j l)).here (s.kV (sZ s.c.L i j l) (tq s.c.L s.c.pt i j l) (wB s.c.L s.c.mark i j l)).put := by show ¬ 16384 ≤ gG s.here s.put; omega
     refine gQ ?_
     have N9 := X7.drew
     have um := V.kp (N9.f14.f14.f14.f14.f14.f14.f14.f14.f14.f14.f14.f14.f14.f14)
     refine y9 [4, 5] um O (iU 0 O um O (iU 1 O um O (jY 2 O um O (iq 3 O um 33 ah O bM O (jQ 4 O um (fun W hW => kF aV O ((Kp.h hW).f2).get.2 O) (jQ 5 O um (fun W hW => dM bf O cO O O ((Kp.h hW).f4).get.2) (nD 6 O (uo N9 aV cO dQ O O O (by decide) (by decide)) ?_)))))))
     rintro l20 w20 Di
     have zU := V.kp (Di.f15.f15.f15.f15.f15.f15.f15.f15.f15.f15.f15.f15.f15.f15.f15)
     refine eG zU (fun W hW => (Kp.h hW).right.f14.f14.f14.f14.f14.f14.f14.f14.f14.f14.f14.f14.f14.f14) ?_
     refine nD 7 O (iw Di.f13 aV Ak O O O ((Di).aQ) (aG (aX (by first | rfl | exact Rd.one ((Di.f6).aQ)) (aX (by first | rfl | exact Rd.one ((Di.f7).aQ)) bQ))) (by omega) (by omega)) ?_
     rintro l21 w21 vN
     have O9 := vN.f2.right
     have CJ := V.kp (O9.f14.f14.f14.f14.f14.f14.f14.f14.f14.f14.f14.f14.f14.f14)
     refine gU CJ (by kernel_rfl) ?_
     refine jY 8 O CJ O (iq 9 O CJ 33 ah O bM O ?_)
     refine gy 10 O (by kernel_rfl) (fU 33 (l' := [_, _, _, _, _, _, _, _, _, _, _, _, _, _, _, _, _, _, _, _, _, _, _, _, _, _, _, _, _, _, _, _, _, _]) O9.f3 bM O O (by first | rfl | exact Rd.one ((O9).aQ)) O O) ?_
     rintro _ w23 Ce
     have yj := V.kp (Ce.f14.f14.f14.f14.f14.f14.f14.f14.f14.f14.f14.f14.f14.f14)
     refine gU yj (by kernel_rfl) ?_
     refine ru (aW (bT O (fC O (dK results188 O ?_))))
     have X := (Ce.f5.right.f13.f12.f12.f6.f12.f8.f12.f12.f9.f13.f11.f13.f13).lM.swap.lM.swap
     rw [← kW] at X
     have X2 := V.AP X.f3
     exact ⟨by rw [hE]; rfl, by rw [hS, Iu (x := (wC s.c.L i j l, pY s.c.L i j l, qc s.c.L i j l)) hlen Rt]; exact V.Zd (s := { s.kV (sZ s.c.L i j l) (tq s.c.L s.c.pt i j l) (wB s.c.L s.c.mark i j l) with put := s.put ++ [(wC s.c.L i j l, pY s.c.L i j l, qc s.c.L i j l)] }) (Iu (x := (wC s.c.L i j l, pY s.c.L i j l, qc s.c.L i j l)) hlen Rt ▸ VW (yV iD _ _ _) hok) (by rw [List.map_append, dG]; rfl) X2⟩
   ·(try simp only [aA] at h3)
    have hlen : (pY s.c.L i j l).length + (qc s.c.L i j l).length = 0 := by omega
    refine gQ (bT O (fC O (dK results188 O ?_)))
    exact ⟨by rw [hE]; rfl, by rw [hS, Gy (x := (wC s.c.L i j l, pY s.c.L i j l, qc s.c.L i j l)) hlen]; exact V.iF (s := s.kV (sZ s.c.L i j l) (tq s.c.L s.c.pt i j l) (wB s.c.L s.c.mark i j l)) (yV iD _ _ _) dG H5.right.right.right.f11.f11.f11.f11.f11.f11.f11.f11.f11.f10.f11⟩
  ·(try simp only [aA] at h2)
   have hlen : (pY s.c.L i j l).length + (qc s.c.L i j l).length = 0 := by rw [(hno h2).1, (hno h2).2]; rfl
   refine bF (bF (bF (bF (bF (bF (bF (bF (ig O O (iL (qH (gQ (bT O (fC O (dK results188 O ?_))))))))))))))
   exact ⟨by rw [hE]; rfl, by rw [hS, Gy (x := (wC s.c.L i j l, pY s.c.L i j l, qc s.c.L i j l)) hlen]; exact V.iF (s := s.kV (sZ s.c.L i j l) (tq s.c.L s.c.pt i j l) (wB s.c.L s.c.mark i j l)) (yV iD _ _ _) dG H5.right.right.right.f11.f11.f11.f11.f11.f11.f11.f11.f11.f10.f11⟩
theorem Pz (H : V w0 w (fF e s • F)) : iI prog 200 #[.pointer (some ⟨e, 0, none⟩), .int .i64 i, .int .i64 j] w fun v' w' => v' = .int .i64 (s.vT i j []) ∧ V w0 w' (fF e (s.qJ i j []) • F) := by
  refine AB func200 ntmps200 ?_
  refine jR O (bT O (jO O O (dS O func188 (Lc H (fun W _ => gJ.nil W _ none 0 (by decide))) ?_)))
  rintro _ w1 ⟨rfl, H1⟩
  refine fC O (dK results200 O ?_)
  exact ⟨O, H1⟩
end
theorem Xp {E : List (List Int)} {a : Nat} {way : Int} {l : List Int} (h : (Dp E a way l).1 ≠ 0) : (Dp E a way l).2 = (E, a) := by
  unfold Dp at *
  repeat' split at h
  all_goals first | (simp at h; done) | skip
  all_goals (repeat' (first | rw [if_pos (by assumption)] | rw [if_neg (by assumption)])) <;> rfl
theorem Xq {s : bC} {i j : Int} {back : Bool} (h : (s.qY i j back).1 ≠ 0) : (s.qY i j back).2 = (s.c.E, s.c.at_) := Xp h
theorem En {s : bC} {i j : Int} {back : Bool} (h : s.rP i j back ≠ 0) : s.sJ i j back = s := by unfold bC.sJ; rw [if_neg h]
section
variable {w0 w : World} {F : HP} {e p h pr : Nat} {s : bC} {i j x : Int} {back : Bool} {v : Value} {l : List Int}
theorem Ru (H : V w0 w (fF e s • F)) : iI prog 185 #[.pointer (some ⟨e, 0, none⟩), .int .i64 i, .int .i64 j, .bool back] w fun v' w' => v' = .int .i64 (s.rP i j back) ∧ V w0 w' (fF e (s.sJ i j back) • F) := by
 refine Ql func185 ntmps185 ?_
 refine jR O (aO (bT O (dS O func81 (ql H) ?_)))
 rintro _ _ ⟨rfl, rfl⟩
 refine fP O (bT O (Z (iM O O) (jL O (fun h1 => ?_) (fun h1 => ?_))))
 ·(try simp only [aA] at h1)
  obtain ⟨hin, hpe⟩ := Gt h1
  refine bT O (fC O (aB (dK results185 O ?_)))
  rw [hpe]
  exact ⟨by simp [bC.rP, bC.sJ, hin], by rw [show s.sJ i j back = s from by simp [bC.rP, bC.sJ, hin]]; exact H⟩
 ·(try simp only [aA] at h1)
  have hin := DI h1
  refine gQ (aO (aO ?_))
  obtain ⟨yG, yH, yI, yJ, yK, yL, yM, yN, wu, uK, uM, uN, uO, uP, uQ, uS, uT, uU, uV, uX, iD, dG, kW, iO⟩ := (H).Ii
  have hL : s.c.L.length ≤ 1024 := by obtain ⟨a, c, xs, f, t, h1, h2, h3, h4, h5, h6, h7, hc1, hc2, hl, H1⟩ := (iO.f2).buf; exact h4
  refine aC (bP O (Z (gB O O) (jJ O (fun h2 => ?_) (fun h2 => ?_))))
  ·(try simp only [aA] at h2)
   refine bF (bF (bF (bF (bF (bF (bF (bF (jh O O (bP O (bF (bF (bF (jh O O (bP O (bF (bF (bF (bF (bF (bF (bF (bF (jh O O (iL (C9 (jP O (aB (dK results185 O ?_))))))))))))))))))))))))))))
   have hb : s.qB i j := by unfold bC.qB; omega
   have hc : s.rP i j back = 70 := by unfold bC.rP; rw [if_pos hin, if_pos hb]
   exact ⟨by rw [hc], by rw [En (by rw [hc]; decide)]; exact V.iF iD dG iO.f11.f11.f11.f11.f11.f11.f11.f11.f11.f11.f11⟩
  ·(try simp only [aA] at h2)
   refine bg (bP O (bg (bP O (bg (dL O (bg (bJ 0 ah O aU O (bg (bJ 0 aJ O qO O (bg (fV lN O (iO).get.2 O (bg (dS O func132 (uw iO.f2) ?_)))))))))))))
   rintro _ w3 ⟨rfl, hD3⟩
   have HD3 := iO.xg hD3
   refine bg (Z (dY O O) (ig O O (jJ O (fun h3 => ?_) (fun h3 => ?_))))
   ·(try simp only [aA] at h3)
    refine bF (bF (bF (jh O O (bP O (bF (bF (bF (bF (bF (bF (bF (bF (jh O O (iL (C9 (jP O (aB (dK results185 O ?_))))))))))))))))))
    have hb : s.qB i j := by unfold bC.qB; omega
    have hc : s.rP i j back = 70 := by unfold bC.rP; rw [if_pos hin, if_pos hb]
    exact ⟨by rw [hc], by rw [En (by rw [hc]; decide)]; exact V.iF iD dG HD3.f11.f11.f11.f11.f11.f11.f11.f11.f11.f11.f11⟩
   ·(try simp only [aA] at h3)
    refine bg (bP O (bg (bP O (bg (Z (gB O O) (ig O O (jJ O (fun h4 => ?_) (fun h4 => ?_))))))))
    ·(try simp only [aA] at h4)
     refine bF (bF (bF (bF (bF (bF (bF (bF (jh O O (iL (C9 (jP O (aB (dK results185 O ?_)))))))))))))
     have hb : s.qB i j := by unfold bC.qB; omega
     have hc : s.rP i j back = 70 := by unfold bC.rP; rw [if_pos hin, if_pos hb]
     exact ⟨by rw [hc], by rw [En (by rw [hc]; decide)]; exact V.iF iD dG HD3.f11.f11.f11.f11.f11.f11.f11.f11.f11.f11.f11⟩
    ·(try simp only [aA] at h4)
     refine bg (bP O (bg (bP O (bg (dL O (bg (bJ 0 ah O aU O (bg (bJ 0 aJ O qO O (bg (fV lN O (HD3).get.2 O (bg (dS O func132 (uw HD3.f2) ?_)))))))))))))
     rintro _ w4 ⟨rfl, hD4⟩
     have HD4 := HD3.xg hD4
     refine bg (Z (dY O O) (ig O O (jL O (fun h5 => ?_) (fun h5 => ?_))))
     ·(try simp only [aA] at h5)
      refine jP O (aB (dK results185 O ?_))
      have hb : s.qB i j := by unfold bC.qB; omega
      have hc : s.rP i j back = 70 := by unfold bC.rP; rw [if_pos hin, if_pos hb]
      exact ⟨by rw [hc], by rw [En (by rw [hc]; decide)]; exact V.iF iD dG HD4.f11.f11.f11.f11.f11.f11.f11.f11.f11.f11.f11⟩
     ·(try simp only [aA] at h5)
      refine gQ (aO ?_)
      have hb : ¬ s.qB i j := by unfold bC.qB; omega
      have hc : s.rP i j back = (s.qY i j back).1 := by unfold bC.rP; rw [if_pos hin, if_neg hb]
      refine aC (fP O ?_)
      refine lu [(0, _), (1, _), (2, _)] (fun (_ : Unit) => [(10, .int .i64 (s.way back))]) (fun (_ : Unit) W => W = w4) vZ ?_ ?_
      ·rintro _ w5 rfl
       dsimp only [List.cons_append, List.nil_append]
       refine aO (aO ?_)
       have ab5 := HD4.drew
       have vW := V.kp (ab5.f11.f11.f11.f11.f11.f11.f11.f11.f11.f11.f11)
       refine y9 [4, 10] vW O (iU 0 O vW O (jY 1 O vW O (iq 2 O vW 0 ah O aU O (iq 3 O vW 1 aJ O sizeOf73 O (jQ 4 O vW (fun W hW => kF tu O ((Kp.h hW)).get.2 O) (iU 5 O vW O (iU 6 O vW O (jY 7 O vW O (iq 8 O vW 0 ah O aU O (iq 9 O vW 0 aJ O qO O (jQ 10 O vW (fun W hW => kF lN O ((Kp.h hW)).get.2 O) (iU 12 O vW O (iU 13 O vW O (nD 11 O (xW O func126 (yC ab5.f2)) ?_))))))))))))))
       rintro u6 w6 H6
       have FC := V.kp (H6.f12.f12.f12.f12.f12.f12.f12.f12.f12.f12.f12.f12)
       refine eG FC (fun W hW => (Kp.h hW).right.f11.f11.f11.f11.f11.f11.f11.f11.f11.f10.f11) ?_
       refine jB 14 O FC (fun _ => rH ((H6).aQ) aj bV O O O (by omega)) ?_
       refine nD 15 O (xW O func199 (MF H6.f4 (fun W HW => gJ.cut ((HW).aQ) (by omega) (by omega)))) ?_
       rintro _ w7 ⟨rfl, H7⟩
       have Dt := V.kp (H7.f12.f12.f12.f12.f12.f12.f12.f12.f12.f12.f12.f12)
       refine gU Dt (by kernel_rfl) ?_
       refine jB 16 O Dt (fun _ => dR O) (ru (aW (bT O (Z (iM O O) (jL O (fun h6 => ?_) (fun h6 => ?_))))))
       ·(try simp only [aA] at h6)
        refine bT O (fC O (aB (dK results185 O ?_)))
        exact ⟨by rw [hc]; rfl, by rw [En (by rw [hc]; assumption)]; have HX := H7.f2.right.f11.f11.f11.f11.f11.f11.f11.f11.f9.f10.f11; rw [show Dp s.c.E s.c.at_ (s.way back) ((s.c.L.drop i.toNat).take (j.toNat - i.toNat)) = s.qY i j back from O, Xq (by assumption)] at HX; exact V.iF iD dG HX⟩
       ·(try simp only [aA] at h6)
        refine gQ (bT O (nK O O (bJ 29 ah O aP O (aI (eU 29 H7.f4 aP) ?_))))
        rintro _ w8 H8
        refine dL O (bJ 28 ah O ay O (aI (eU 28 H8 ay) ?_))
        rintro _ w9 H9
        refine iL (jP O (dK results185 O ?_))
        have hc0 : s.rP i j back = 0 := by rw [hc]; assumption
        have hs : s.sJ i j back = { s.BH (s.qY i j back).2.1 (s.qY i j back).2.2 with kT := true, cls := 1 } := by unfold bC.sJ; rw [if_pos hc0]
        exact ⟨by rw [hc0], by rw [hs]; exact V.iF (s := { s.BH (s.qY i j back).2.1 (s.qY i j back).2.2 with kT := true, cls := 1 }) iD dG H9.f3.right.f11.f11.f11.f11.f11.f11.f11.f11.f10.f11.f11⟩
      ·skip
       refine bT O (dL O (bJ 0 ah O aU O (bJ 6 aJ O ay O (fV aH O (HD4).get.2 O (Z (dX O O) (jJ O (fun h7 => ?_) (fun h7 => ?_)))))))
       ·(try simp only [aA] at h7)
        refine bF (bF (bF (bF (jh O O (iL (C9 (jR O (bT O (jL O (fun h8 => ?_) (fun h8 => ?_))))))))))
        ·(try simp only [aA] at h8)
         refine aC (iJ O (bY ?_))
         refine dF (()) ?_ ?_ ?_
         ·exact (Sub.jG O (by unfold bC.way; simp_all) (Sub.nil _))
         ·exact vZ
         ·(try dsimp only)
          first | done | exact rfl
        ·(try simp only [aA] at h8)
         refine dn ?_
         refine dF (()) ?_ ?_ ?_
         ·exact (Sub.jG O (by unfold bC.way; simp_all) (Sub.nil _))
         ·exact vZ
         ·(try dsimp only)
          first | done | exact rfl
       ·(try simp only [aA] at h7)
        refine bg (bP O (bg (dL O (bg (bJ 29 ah O aP O (bg (fV bZ O (HD4).get.2 O (ig O O (jL O (fun h9 => ?_) (fun h9 => ?_))))))))))
        ·(try simp only [aA] at h9)
         refine jR O (bT O (jL O (fun h10 => ?_) (fun h10 => ?_)))
         ·(try simp only [aA] at h10)
          refine aC (iJ O (bY ?_))
          refine dF (()) ?_ ?_ ?_
          ·exact (Sub.jG O (by unfold bC.way; simp_all) (Sub.nil _))
          ·exact vZ
          ·(try dsimp only)
           first | done | exact rfl
         ·(try simp only [aA] at h10)
          refine dn ?_
          refine dF (()) ?_ ?_ ?_
          ·exact (Sub.jG O (by unfold bC.way; simp_all) (Sub.nil _))
          ·exact vZ
          ·(try dsimp only)
           first | done | exact rfl
        ·(try simp only [aA] at h9)
         refine dn ?_
         refine dF (()) ?_ ?_ ?_
         ·exact (Sub.jG O (by unfold bC.way; simp_all) (Sub.nil _))
         ·exact vZ
         ·(try dsimp only)
          first | done | exact rfl
theorem Rw (H : V w0 w (fF e s • F)) : iI prog 186 #[.pointer (some ⟨e, 0, none⟩), .int .i64 i, .int .i64 j, .bool back] w fun v' w' => v' = .int .i64 (s.EN i j back) ∧ V w0 w' (fF e (s.uF i j back) • F) := by
  refine Ql func186 ntmps186 ?_
  refine jR O (aO (bT O (jO O O (bP O (dS O func185 (Ru H) ?_)))))
  rintro _ w1 ⟨rfl, H1⟩
  refine fP O (bT O (Z (iM O O) (jL O (fun h1 => ?_) (fun h1 => ?_))))
  · (try simp only [aA] at h1)
    have hc := h1
    refine bT O (fC O (aB (dK results186 O ?_)))
    exact ⟨by unfold bC.EN; rw [if_neg hc], by unfold bC.uF; rw [if_neg hc]; have HX := H1; rw [En hc] at HX; exact HX⟩
  · (try simp only [aA] at h1)
    have hc := h1
    refine gQ (bT O (jO O O (dS O func200 (Pz H1) ?_)))
    rintro _ w2 ⟨rfl, H2⟩
    refine fC O (dK results186 O ?_)
    exact ⟨by unfold bC.EN; rw [if_pos hc], by unfold bC.uF; rw [if_pos hc]; exact H2⟩
theorem ZB {E : List (List Int)} (h : ∀ x ∈ E, x.length ≤ 1024) (k : Nat) : (E.getD k []).length ≤ 1024 := by
  rw [List.getD_eq_getElem?_getD]
  cases hk : E[k]? with
  | none => simp
  | some x => exact h x (List.mem_of_getElem? hk)
end
end Go.Proofs.YtpdeedplgmbopaaGreatDoor
end
