import Derived.Test.YtpdeedplgmbopaaGreatDoorZ4
import Derived.Test.YtpdeedplgmbopaaGreatDoorZ11
set_option linter.unusedSimpArgs false
set_option linter.unusedVariables false
/- Texts of mine, joined, their names in short: EdMv EdR EdK. -/
section
namespace Go.Proofs.YtpdeedplgmbopaaGreatDoor
open Go.RowKit
open _root_.Go.Proofs.Tryz
section
variable {w0 w : World} {F : HP} {e p h pr : Nat} {s : bn} {x : Int} {b : Bool}
theorem yY (h : mM s) (L : List Int) (pt mk : Int) : mM (s.jT L pt mk) := h
theorem uY (H : V w0 w (eP e s • F)) : iE prog 30 #[.pointer (some ⟨e, 0, none⟩), .int .i64 x] w fun v w' => v = .int .i64 (s.sU x) ∧ V w0 w' (eP e (s.lC x) • F) := by
 refine oV func30 ntmps30 ?_
 refine jQ O (aN (bQ O (dS O func81 (nS H) ?_)))
 rintro _ _ ⟨rfl, rfl⟩
 refine fG O (bQ O (Z (ig O O) (jB O (fun h1 => ?_) (fun h1 => ?_))))
 ·(try simp only [aA] at h1)
  obtain ⟨hin, hpe⟩ := BU h1
  refine bQ O (fB O (aB (dL results30 O ?_)))
  rw [hpe]
  exact ⟨by simp [bn.sU, bn.lC, hin], by rw [show s.lC x = s from by simp [bn.sU, bn.lC, hin]]; exact H⟩
 ·(try simp only [aA] at h1)
  have hin := zD h1
  refine gG (aN ?_)
  obtain ⟨wM, wO, wP, wQ, wR, wS, wU, wV, uN, tu, tC, tH, tJ, tK, tN, tV, tX, tY, tZ, uf, gK, dD, kM, iw⟩ := (H).GI
  refine aC (nG O O (bJ 0 ah O aU O (bJ 0 aI O mO O (fM jH O (iw).get.2 O (bT O (dS O func82 (OW iw.f2) ?_))))))
  rintro _ w3 ⟨rfl, H3⟩
  refine fB O (dL results30 O ?_)
  exact ⟨by simp [bn.sU, hin], by rw [show s.lC x = s.jT s.c.L (Yj s.c.L.length s.c.pt x) s.c.mark from by simp [bn.lC, hin]]; exact V.iq (yY gK _ _ _) dD H3.f11.f11.f11.f11.f11.f11.f11.f11.f11.f10.f11⟩
theorem UH (H : V w0 w (eP e s • F)) : iE prog 32 #[.pointer (some ⟨e, 0, none⟩), .int .i64 x] w fun v w' => v = .int .i64 (s.Gz x) ∧ V w0 w' (eP e (s.FH x) • F) := by
 refine oV func32 ntmps32 ?_
 refine jQ O (aN (bQ O (dS O func81 (nS H) ?_)))
 rintro _ _ ⟨rfl, rfl⟩
 refine fG O (bQ O (Z (ig O O) (jB O (fun h1 => ?_) (fun h1 => ?_))))
 ·(try simp only [aA] at h1)
  obtain ⟨hin, hpe⟩ := BU h1
  refine bQ O (fB O (aB (dL results32 O ?_)))
  rw [hpe]
  exact ⟨by simp [bn.Gz, bn.FH, hin], by rw [show s.FH x = s from by simp [bn.Gz, bn.FH, hin]]; exact H⟩
 ·(try simp only [aA] at h1)
  have hin := zD h1
  refine gG (aN (bQ O (Z (dY O O) (jG O (fun h2 => ?_) (fun h2 => ?_)))))
  ·(try simp only [aA] at h2)
   refine bF (bF (iU O O (iJ (CP (jM O (aB (dL results32 O ?_)))))))
   have hd : s.Gz x = 1 := by unfold bn.Gz; rw [if_pos hin, if_pos (by omega)]
   exact ⟨by rw [hd], by unfold bn.FH; rw [hd, if_neg (by decide)]; exact H⟩
  ·(try simp only [aA] at h2)
   refine bg (bT O (bg (Z (fZ O O) (iH O O (jB O (fun h3 => ?_) (fun h3 => ?_))))))
   ·(try simp only [aA] at h3)
    refine jM O (aB (dL results32 O ?_))
    have hd : s.Gz x = 1 := by unfold bn.Gz; rw [if_pos hin, if_pos (by omega)]
    exact ⟨by rw [hd], by unfold bn.FH; rw [hd, if_neg (by decide)]; exact H⟩
   ·(try simp only [aA] at h3)
    refine gG (aN ?_)
    have hd : s.Gz x = 0 := by unfold bn.Gz; rw [if_pos hin, if_neg (by omega)]
    obtain ⟨wM, wO, wP, wQ, wR, wS, wU, wV, uN, tu, tC, tH, tJ, tK, tN, tV, tX, tY, tZ, uf, gK, dD, kM, iw⟩ := (H).GI
    refine aC (jR O O (jR O O (Z (fZ O O) (dK O (bJ 13 ah O aP O (aJ (eX 13 iw aP) ?_))))))
    rintro _ w3 H3
    refine dK O (bJ 31 ah O aP O (aJ (eX 31 H3 aP) ?_))
    rintro _ w4 H4
    refine dK O (bJ 14 ah O aP O (aJ (eX 14 H4 aP) ?_))
    rintro _ w5 H5
    refine rG O (jR O O (Z (Yt O (by omega)) (Z (Vr O O) (dK O (bJ 15 ah O ay O (aJ (eX 15 H5 ay) ?_))))))
    rintro _ w6 H6
    refine iJ (jM O (dL results32 O ?_))
    rw [hd]
    refine ⟨O, ?_⟩
    unfold bn.FH
    rw [if_pos hd]
    exact V.iq (s := { s with given := true, argues := true, minus := decide (x < 0), arg := max x (-x) }) ⟨gK.1, gK.2.1, by dsimp only; omega, gK.2.2.2⟩ dD H6.f11.f11.f11.f11.f11.f11.f11.f11.f11.f11.f11
theorem RH (H : V w0 w (eP e s • F)) : iE prog 62 #[.pointer (some ⟨e, 0, none⟩), .int .i64 x] w fun v w' => v = .int .i64 (s.uq x) ∧ V w0 w' (eP e (s.yD x) • F) := by
 refine oV func62 ntmps62 ?_
 refine jQ O (aN (bQ O (dS O func81 (nS H) ?_)))
 rintro _ _ ⟨rfl, rfl⟩
 refine fG O (bQ O (Z (ig O O) (jB O (fun h1 => ?_) (fun h1 => ?_))))
 ·(try simp only [aA] at h1)
  obtain ⟨hin, hpe⟩ := BU h1
  refine bQ O (fB O (aB (dL results62 O ?_)))
  rw [hpe]
  exact ⟨by simp [bn.uq, bn.yD, hin], by rw [show s.yD x = s from by simp [bn.uq, bn.yD, hin]]; exact H⟩
 ·(try simp only [aA] at h1)
  have hin := zD h1
  refine gG (aN (bQ O (Z (fZ O O) (jG O (fun h2 => ?_) (fun h2 => ?_)))))
  ·(try simp only [aA] at h2)
   refine bF (bF (iU O O (iJ (CP (jM O (aB (dL results62 O ?_)))))))
   have hd : s.uq x = 1 := by unfold bn.uq; rw [if_pos hin, if_pos (by omega)]
   exact ⟨by rw [hd], by unfold bn.yD; rw [hd, if_neg (by decide)]; exact H⟩
  ·(try simp only [aA] at h2)
   refine bg (bT O (bg (Z (dY O O) (iH O O (jB O (fun h3 => ?_) (fun h3 => ?_))))))
   ·(try simp only [aA] at h3)
    refine jM O (aB (dL results62 O ?_))
    have hd : s.uq x = 1 := by unfold bn.uq; rw [if_pos hin, if_pos (by omega)]
    exact ⟨by rw [hd], by unfold bn.yD; rw [hd, if_neg (by decide)]; exact H⟩
   ·(try simp only [aA] at h3)
    refine gG (aN ?_)
    have hd : s.uq x = 0 := by unfold bn.uq; rw [if_pos hin, if_neg (by omega)]
    obtain ⟨wM, wO, wP, wQ, wR, wS, wU, wV, uN, tu, tC, tH, tJ, tK, tN, tV, tX, tY, tZ, uf, gK, dD, kM, iw⟩ := (H).GI
    refine aC (jR O O (dK O (bJ 0 ah O aU O (bJ 4 aI O ay O (aJ (eX 4 iw ay) ?_)))))
    rintro _ w3 H3
    refine iJ (jM O (dL results62 O ?_))
    rw [hd]
    refine ⟨O, ?_⟩
    unfold bn.yD
    rw [if_pos hd]
    exact V.iq (s := { s with c := { s.c with mode := x } }) gK dD H3.f11.f11.f11.f11.f11.f11.f11.f11.f11.f11.f11
theorem PO (H : V w0 w (eP e s • F)) : iE prog 72 #[.pointer (some ⟨e, 0, none⟩)] w fun v w' => v = .int .i64 s.count ∧ V w0 w' (eP e s • F) := by
 refine iZ func72 ntmps72 ?_
 refine jQ O (aN (aY (bQ O (dS O func65 (rW H) ?_))))
 rintro _ _ ⟨rfl, rfl⟩
 refine fG O (qo (aN ?_))
 obtain ⟨wM, wO, wP, wQ, wR, wS, wU, wV, uN, tu, tC, tH, tJ, tK, tN, tV, tX, tY, tZ, uf, gK, dD, kM, iw⟩ := (H).GI
 have harg := gK.2.2.1
 refine aC (nG O O (bJ 13 ah O aP O (fM bY O (iw).get.2 O (Z (lJ O) (fG O (bD O (fun h1 => ?_) (fun h1 => ?_)))))))
 ·(try simp only [aA] at h1)
  have hg := h1
  refine jM O (aT (aB (dL results72 O ?_)))
  have QL := iw.f11.f11.f11.f11.f11.f11.f11.f11.f11.f11.f11
  have Qi := V.iq (s := s) gK dD QL
  exact ⟨by unfold bn.count; simp only [*]; first | rfl | (split <;> simp_all <;> omega) | simp_all, Qi⟩
 ·(try simp only [aA] at h1)
  have hg := h1
  refine cZ (aK (aX (bQ O (dK O (bJ 15 ah O ay O (fM aH O (iw).get.2 O (uZ O (bQ O (Z (fZ O O) (jB O (fun h2 => ?_) (fun h2 => ?_)))))))))))
  ·(try simp only [aA] at h2)
   refine aC (uZ O (bQ O (dK O (bJ 14 ah O aP O (fM bY O (iw).get.2 O (jB O (fun h3 => ?_) (fun h3 => ?_)))))))
   ·(try simp only [aA] at h3)
    refine bQ O (Z (Yt O (by omega)) (fB O (aB (dL results72 O ?_))))
    have Y4 := iw.f11.f11.f11.f11.f11.f11.f11.f11.f11.f11.f11
    have Y5 := V.iq (s := s) gK dD Y4
    exact ⟨by unfold bn.count; simp only [*]; first | rfl | (split <;> simp_all <;> omega) | simp_all, Y5⟩
   ·(try simp only [aA] at h3)
    refine gG (bQ O (fB O (dL results72 O ?_)))
    have Y9 := iw.f11.f11.f11.f11.f11.f11.f11.f11.f11.f11.f11
    have Za := V.iq (s := s) gK dD Y9
    exact ⟨by unfold bn.count; simp only [*]; first | rfl | (split <;> simp_all <;> omega) | simp_all, Za⟩
  ·(try simp only [aA] at h2)
   refine gG (aN (bQ O (dK O (bJ 14 ah O aP O (fM bY O (iw).get.2 O (jB O (fun h4 => ?_) (fun h4 => ?_)))))))
   ·(try simp only [aA] at h4)
    refine bQ O (Z (Yt O (by omega)) (fB O (aB (dL results72 O ?_))))
    have adt := iw.f11.f11.f11.f11.f11.f11.f11.f11.f11.f11.f11
    have adu := V.iq (s := s) gK dD adt
    exact ⟨by unfold bn.count; simp only [*]; first | rfl | (split <;> simp_all <;> omega) | simp_all, adu⟩
   ·(try simp only [aA] at h4)
    refine gG (bQ O (fB O (dL results72 O ?_)))
    have agj := iw.f11.f11.f11.f11.f11.f11.f11.f11.f11.f11.f11
    have agk := V.iq (s := s) gK dD agj
    exact ⟨by unfold bn.count; simp only [*]; first | rfl | (split <;> simp_all <;> omega) | simp_all, agk⟩
theorem PS (H : V w0 w (eP e s • F)) : iE prog 73 #[.pointer (some ⟨e, 0, none⟩)] w fun v w' => v = .bool s.given ∧ V w0 w' (eP e s • F) := by
  refine iZ func73 ntmps73 ?_
  refine jQ O (bQ O (dS O func65 (rW H) ?_))
  rintro _ _ ⟨rfl, rfl⟩
  refine Z (lJ O) ?_
  obtain ⟨wM, wO, wP, wQ, wR, wS, wU, wV, uN, tu, tC, tH, tJ, tK, tN, tV, tX, tY, tZ, uf, gK, dD, kM, iw⟩ := (H).GI
  refine xsE O (fun h1 => ?_)
  (try simp only [aA] at h1)
  refine bg (bT O (bg (dK O (bg (bJ 13 ah O aP O (bg (fM bY O (iw).get.2 O (iU O O (fB O (dL results73 O ?_))))))))))
  have QL := iw.f11.f11.f11.f11.f11.f11.f11.f11.f11.f11.f11
  have Qi := V.iq (s := s) gK dD QL
  exact ⟨O, Qi⟩
theorem qE (H : V w0 w (eP e s • F)) : iE prog 28 #[.pointer (some ⟨e, 0, none⟩)] w fun v w' => ∃ u, v = .agg (wJ u s.c.pt s.c.mark) ∧ V w0 w' (ku 21 .i32 u s.c.L • eP e s • F) := by
 refine iZ func28 ntmps28 ?_
 refine iR (kD (iC (l := [_, _, _]) H zeroValue46 O) ?_)
 rintro _ w1 ⟨b1, rfl, H1⟩
 refine qQ (bQ O (dS O func65 (rW H1.f2) ?_))
 rintro _ _ ⟨rfl, rfl⟩
 refine iJ (qo (gG (aN ?_)))
 obtain ⟨wM, wO, wP, wQ, wR, wS, wU, wV, uN, tu, tC, tH, tJ, tK, tN, tV, tX, tY, tZ, uf, gK, dD, kM, iw⟩ := (H1.f2).GI
 refine aC (nG O O (bJ 0 ah O aU O (bJ 0 aI O mO O (fM jH O (iw).get.2 O (dS O func79 (Gp iw.f2) ?_)))))
 rintro _ w4 ⟨u4, rfl, H4⟩
 refine aJ (dB 0 (l' := [_, _, _]) (us := [_, _, _]) H4.f13 sizeOf46 O O O (aZ (by first | rfl | exact Rd.one ((H4).aS)) (aG (aG bU))) O O) ?_
 rintro _ w5 H5
 refine zkc ?_
 refine rJ (.inl O) (OI results28 O iO O (by rw [YJ]; rfl) (H5).get.2) ?_
 have Y4 := H5.f13.f13.f13.f13.f13.f13.f13.f13.f13.f12.f13
 have Y5 := V.iq (s := s) gK dD Y4
 exact ⟨_, O, Y5.f2.right.f2⟩
end
theorem wW {L : List Int} {i j : Int} {l : List Int} (h : nO L i j l ≠ 0) : qy L i j l = [] ∧ qB L i j l = [] := by unfold qy qB; rw [if_neg h, if_neg h]; exact ⟨rfl, rfl⟩
theorem abv {L : List Int} {i j : Int} {l : List Int} (hL : L.length ≤ 1024) (h : 0 < (qy L i j l).length + (qB L i j l).length) : zC (wC L i j l, qy L i j l, qB L i j l) := by
  by_cases h0 : nO L i j l = 0
  · refine ⟨?_, h, ?_, ?_⟩
    · show 0 ≤ wC L i j l
      unfold wC; rw [if_pos h0]
      unfold nO at h0
      split at h0
      · cases h0
      · omega
    · show (qy L i j l).length ≤ 1024
      unfold qy; rw [if_pos h0]
      simp only [List.length_take, List.length_drop]; omega
    · show (qB L i j l).length ≤ 1024
      unfold qB; rw [if_pos h0]
      unfold nO at h0
      split at h0
      · cases h0
      · split at h0
        · cases h0
        · omega
  · rw [(wW h0).1, (wW h0).2] at h
    simp at h
theorem ZO {L : List Int} {i j : Int} {l : List Int} (hL : L.length ≤ 1024) : (qy L i j l).length ≤ 1024 ∧ (qB L i j l).length ≤ 1024 := by
  by_cases h0 : nO L i j l = 0
  · refine ⟨?_, ?_⟩
    · unfold qy; rw [if_pos h0]
      simp only [List.length_take, List.length_drop]; omega
    · unfold qB; rw [if_pos h0]
      unfold nO at h0
      split at h0
      · cases h0
      · split at h0
        · cases h0
        · omega
  · rw [(wW h0).1, (wW h0).2]; simp
theorem DX {s : bn} {x : jm} (h : x.2.1.length + x.2.2.length = 0) : s.rC x = s := by unfold bn.rC; rw [if_pos h]
theorem Iu {s : bn} {x : jm} (h : 0 < x.2.1.length + x.2.2.length) (k : ¬ 16384 ≤ gV s.here s.put) : s.rC x = { s with put := s.put ++ [x] } := by unfold bn.rC; rw [if_neg (by omega), if_neg k]
theorem Iw {s : bn} {x : jm} (h : 0 < x.2.1.length + x.2.2.length) (k : 16384 ≤ gV s.here s.put) : s.rC x = { s.nC [] with put := [x], c := { (s.nC []).c with run := false } } := by unfold bn.rC; rw [if_neg (by omega), if_pos k]
theorem pz (G : List (List jm)) (N : List jm) : gV G N = gV G [] + N.length := by unfold gV; simp
theorem V8 {s : bn} {x : jm} (h : mM s) (hx : 0 < x.2.1.length + x.2.2.length → zC x) : mM (s.rC x) := by
  by_cases h0 : x.2.1.length + x.2.2.length = 0
  · rw [DX h0]; exact h
  · have hx' := hx (by omega)
    obtain ⟨h1, h2, h3, h4, h5, h6⟩ := h
    by_cases hf : 16384 ≤ gV s.here s.put
    · rw [Iw (by omega) hf]
      refine ⟨h1, h2, h3, fun e he => by rw [List.mem_singleton.1 he]; exact hx', ?_, ?_⟩
      · show gV (xI s.c.un s.c.place [] s.c.place) [x] ≤ 16384
        rw [iL]; simp [gV]
      · intro k g hg
        have hg' : g ∈ xI s.c.un s.c.place [] k := hg
        by_cases hk : k = s.c.place
        · subst hk; rw [iL] at hg'; cases hg'
        · rw [vU _ _ hk] at hg'; exact h6 k g hg'
    · rw [Iu (by omega) hf]
      refine ⟨h1, h2, h3, fun e he => ?_, ?_, h6⟩
      · rcases List.mem_append.1 he with he | he
        · exact h4 e he
        · rw [List.mem_singleton.1 he]; exact hx'
      · show gV s.here (s.put ++ [x]) ≤ 16384
        rw [O7]; omega
section
variable {w0 w : World} {F : HP} {e p h pr : Nat} {s : bn} {i j x : Int} {b : Bool} {v : Value} {l : List Int}
theorem DY (H : V w0 w (eP e s • F)) (hr : jF w0 F .i32 v l) : iE prog 188 #[.pointer (some ⟨e, 0, none⟩), .int .i64 i, .int .i64 j, v] w fun v' w' => v' = .int .i64 (s.qH i j l) ∧ V w0 w' (eP e (s.nR i j l) • F) := by
 refine Qw func188 ntmps188 ?_
 refine jQ O (aN (bQ O (dS O func81 (nS H) ?_)))
 rintro _ _ ⟨rfl, rfl⟩
 refine fG O (bQ O (Z (ig O O) (jB O (fun h1 => ?_) (fun h1 => ?_))))
 ·(try simp only [aA] at h1)
  obtain ⟨hin, hpe⟩ := BU h1
  refine bQ O (fB O (aB (dL results188 O ?_)))
  rw [hpe]
  exact ⟨by simp [bn.qH, bn.nR, hin], by rw [show s.nR i j l = s from by simp [bn.qH, bn.nR, hin]]; exact H⟩
 ·(try simp only [aA] at h1)
  have hin := zD h1
  refine gG (aN ?_)
  obtain ⟨wM, wO, wP, wQ, wR, wS, wU, wV, uN, tu, tC, tH, tJ, tK, tN, tV, tX, tY, tZ, uf, gK, dD, kM, iw⟩ := (H).GI
  have hL : s.c.L.length ≤ 1024 := by obtain ⟨a, c, xs, f, t, h1, h2, h3, h4, h5, h6, h7, hc1, hc2, hl, H1⟩ := (iw.f2).buf; exact h4
  have hE : s.qH i j l = nO s.c.L i j l := by unfold bn.qH; rw [if_pos hin]
  have hS : s.nR i j l = (s.jT (qX s.c.L i j l) (qY s.c.L s.c.pt i j l) (vP s.c.L s.c.mark i j l)).rC (wC s.c.L i j l, qy s.c.L i j l, qB s.c.L i j l) := by unfold bn.nR; rw [if_pos hin]
  have hln := ZO (i := i) (j := j) (l := l) hL
  have hput : gV s.here s.put ≤ 16384 := gK.2.2.2.2.1
  have hsp : gV s.here s.put = gV (s.c.un s.c.place) [] + s.put.length := pz _ _
  have hok := abv (i := i) (j := j) (l := l) hL
  have hno := wW (L := s.c.L) (i := i) (j := j) (l := l)
  refine aC (nG O O (bJ 0 ah O aU O (bJ 0 aI O mO O (fM jH O (iw).get.2 O (jR O O (bT O (dS O func202 (Ji iw.f2 (fun W HW => hr _ (HW.right.right.right.right.right.right.right.right.right.right))) ?_)))))))
  rintro _ w3 ⟨d3, s3, rfl, H3⟩
  refine bT O (uH O O (uH O O (kD (iC (l := [_, _, _]) H3 dQ O) ?_)))
  rintro _ w4 ⟨b4, rfl, H4⟩
  refine aJ (dB 0 (l' := [_, _, _]) (us := [_, _, _]) H4 cO O O O (aG (aZ (by first | rfl | exact Rd.one ((H4.f2).aS)) (aZ (by first | rfl | exact Rd.one ((H4.f3).aS)) bU))) O O) ?_
  rintro _ w5 H5
  refine uZ O (bQ O (Z (dX O O) (jG O (fun h2 => ?_) (fun h2 => ?_))))
  ·(try simp only [aA] at h2)
   refine bg (bJ 1 bf O dh O (bg (fM aj O (H5).get.2 O (bg (Z (iM ((H5.f2).aS) aj O) (bg (bJ 2 bf O dh O (bg (fM aj O (H5).get.2 O (bg (Z (iM ((H5.f3).aS) aj O) (bg (Z (fJ O O (by omega)) (bg (Z (dY O O) (iU O O (jB O (fun h3 => ?_) (fun h3 => ?_))))))))))))))))))
   ·(try simp only [aA] at h3)
    have hlen : 0 < (qy s.c.L i j l).length + (qB s.c.L i j l).length := by omega
    refine aN (aN ?_)
    have adv := H5.drew
    have Lh := V.kp (adv.f9.right.f13.f13.f13.f13.f13.f13.f13.f13.f13.f13.f13.f13.f13)
    refine yH [6] Lh O (iQ 0 O Lh O (iQ 3 O Lh O (jU 4 O Lh O (gU 5 O Lh 33 ah O bP O (jO 6 O Lh (fun W hW => jV aW O ((Kp.h hW).f5).get.2 O) (jC 7 O Lh (fun _ => kK ((adv.f12).aS) aW O) (mZ 1 O (xq O func134 (DR adv.f9.f8.f7)) ?_)))))))
    rintro _ w6 ⟨lp6, rfl, H6⟩
    have BR := V.kp (H6.right.f14.f14.f14.f14.f14.f14.f14.f14.f14.f14.f14.f14.f14.f14)
    refine eF BR (fun W hW => (Kp.h hW).right.f13.f13.f13.f13.f13.f13.f8.f13.f9.f13.f13.f13.f13) ?_
    refine mZ 2 O (xq O func203 (Kr H6)) ?_
    rintro _ w7 ⟨rfl, H7⟩
    have Bd := V.kp (H7.f15.f15.f15.f15.f15.f15.f15.f15.f15.f15.f15.f15.f15.f15.f15)
    refine eF Bd (fun W hW => (Kp.h hW).right.f14.f14.f14.f14.f14.f14.f14.f14.f14.f14.f14.f14.f14.f14) ?_
    refine jC 8 O Bd (fun _ => fJ O O (by omega)) (jC 9 O Bd (fun _ => lV O O) ?_)
    have Ho8 := H7.f2
    have Yn := V.Py Ho8
    refine qV (aX (bD O (fun h4 => ?_) (fun h4 => ?_)))
    ·(try simp only [aA] at h4)
     have RI : 16384 ≤ gV (s.jT (qX s.c.L i j l) (qY s.c.L s.c.pt i j l) (vP s.c.L s.c.mark i j l)).here (s.jT (qX s.c.L i j l) (qY s.c.L s.c.pt i j l) (vP s.c.L s.c.mark i j l)).put := by show 16384 ≤ gV s.here s.put; omega
     refine bQ O (dS O func134 (DR Yn.f3.f3) ?_)
     rintro _ w10 ⟨ahx, rfl, pR⟩
     refine dS O func204 (KD pR) ?_
     rintro _ Fv tq
     have Pz := tq.f2
     have PD := V.Bj Pz
     refine iJ (aC (jR O O (dK O (bJ 33 ah O bP O (aJ (eX 33 PD.f2 bP) ?_)))))
     rintro _ OQ AZ
     refine dK O (bJ 0 ah O aU O (bJ 10 aI O aP O (aJ (eX 10 AZ aP) ?_)))
     rintro _ QE zU
     refine iJ ?_
     have acr := zU.drew
     have FV := V.kp (acr.f14.f14.f14.f14.f14.f14.f14.f14.f14.f14.f14.f14.f14.f14)
     refine yH [4, 5] FV O (iQ 0 O FV O (iQ 1 O FV O (jU 2 O FV O (gU 3 O FV 33 ah O bP O (jO 4 O FV (fun W hW => jV aW O ((Kp.h hW)).get.2 O) (jO 5 O FV (fun W hW => dM bf O cO O O ((Kp.h hW).f4).get.2) (mZ 6 O (uQ acr aW cO dQ O O O (by decide) (by decide)) ?_)))))))
     rintro l16 w16 vw
     have DJ := V.kp (vw.f15.f15.f15.f15.f15.f15.f15.f15.f15.f15.f15.f15.f15.f15.f15)
     refine eF DJ (fun W hW => (Kp.h hW).right.f14.f14.f14.f14.f14.f14.f14.f14.f14.f14.f14.f14.f14.f14) ?_
     refine mZ 7 O (iy (vw.jk none) aW AB O O O ((vw).aS) (aG (aZ (by first | rfl | exact Rd.one ((vw.f6).aS)) (aZ (by first | rfl | exact Rd.one ((vw.f7).aS)) bU))) (by omega) (by omega)) ?_
     rintro l17 YI Dh
     have ZP := Dh.f2.right
     have Kw := V.kp (ZP.f15.f15.f15.f15.f15.f15.f15.f15.f15.f15.f15.f15.f15.f15.f15)
     refine iG Kw (by kernel_rfl) ?_
     refine jU 8 O Kw O (gU 9 O Kw 33 ah O bP O ?_)
     refine gB 10 O (by kernel_rfl) (fP 33 (l' := [_, _, _, _, _, _, _, _, _, _, _, _, _, _, _, _, _, _, _, _, _, _, _, _, _, _, _, _, _, _, _, _, _, _]) ZP.f2 bP O O (by first | rfl | exact Rd.one ((ZP).aS)) O O) ?_
     rintro _ w19 EF
     have Q8 := V.kp (EF.f15.f15.f15.f15.f15.f15.f15.f15.f15.f15.f15.f15.f15.f15.f15)
     refine iG Q8 (by kernel_rfl) ?_
     refine qV (aX (bQ O (fB O (dL results188 O ?_))))
     have X := (EF.f5.right.f12.right.f12.right.f12.f12.f12.f6.f12.f8.f12.f12.f9.f10.f12.f12).lN.swap.lN.swap
     have X2 := V.Bf (es := []) X.Ko.f3.f3.f4
     exact ⟨by rw [hE]; rfl, by rw [hS, Iw (x := (wC s.c.L i j l, qy s.c.L i j l, qB s.c.L i j l)) hlen RI]; exact V.Zu (s := { (s.jT (qX s.c.L i j l) (qY s.c.L s.c.pt i j l) (vP s.c.L s.c.mark i j l)).nC [] with put := [(wC s.c.L i j l, qy s.c.L i j l, qB s.c.L i j l)], c := { ((s.jT (qX s.c.L i j l) (qY s.c.L s.c.pt i j l) (vP s.c.L s.c.mark i j l)).nC []).c with run := false } }) (Iw (x := (wC s.c.L i j l, qy s.c.L i j l, qB s.c.L i j l)) hlen RI ▸ V8 (yY gK _ _ _) hok) O X2⟩
    ·(try simp only [aA] at h4)
     have RI : ¬ 16384 ≤ gV (s.jT (qX s.c.L i j l) (qY s.c.L s.c.pt i j l) (vP s.c.L s.c.mark i j l)).here (s.jT (qX s.c.L i j l) (qY s.c.L s.c.pt i j l) (vP s.c.L s.c.mark i j l)).put := by show ¬ 16384 ≤ gV s.here s.put; omega
     refine gG ?_
     have Oj := Yn.drew
     have uP := V.kp (Oj.f14.f14.f14.f14.f14.f14.f14.f14.f14.f14.f14.f14.f14.f14)
     refine yH [4, 5] uP O (iQ 0 O uP O (iQ 1 O uP O (jU 2 O uP O (gU 3 O uP 33 ah O bP O (jO 4 O uP (fun W hW => jV aW O ((Kp.h hW).f2).get.2 O) (jO 5 O uP (fun W hW => dM bf O cO O O ((Kp.h hW).f4).get.2) (mZ 6 O (uQ Oj aW cO dQ O O O (by decide) (by decide)) ?_)))))))
     rintro l20 w20 F9
     have DN := V.kp (F9.f15.f15.f15.f15.f15.f15.f15.f15.f15.f15.f15.f15.f15.f15.f15)
     refine eF DN (fun W hW => (Kp.h hW).right.f14.f14.f14.f14.f14.f14.f14.f14.f14.f14.f14.f14.f14.f14) ?_
     refine mZ 7 O (iy F9.f13 aW AB O O O ((F9).aS) (aG (aZ (by first | rfl | exact Rd.one ((F9.f6).aS)) (aZ (by first | rfl | exact Rd.one ((F9.f7).aS)) bU))) (by omega) (by omega)) ?_
     rintro l21 w21 vO
     have Pv := vO.f2.right
     have GH := V.kp (Pv.f14.f14.f14.f14.f14.f14.f14.f14.f14.f14.f14.f14.f14.f14)
     refine iG GH (by kernel_rfl) ?_
     refine jU 8 O GH O (gU 9 O GH 33 ah O bP O ?_)
     refine gB 10 O (by kernel_rfl) (fP 33 (l' := [_, _, _, _, _, _, _, _, _, _, _, _, _, _, _, _, _, _, _, _, _, _, _, _, _, _, _, _, _, _, _, _, _, _]) Pv.f3 bP O O (by first | rfl | exact Rd.one ((Pv).aS)) O O) ?_
     rintro _ w23 CQ
     have I5 := V.kp (CQ.f14.f14.f14.f14.f14.f14.f14.f14.f14.f14.f14.f14.f14.f14)
     refine iG I5 (by kernel_rfl) ?_
     refine qV (aX (bQ O (fB O (dL results188 O ?_))))
     have X := (CQ.f5.right.f13.f12.f12.f6.f12.f8.f12.f12.f9.f13.f11.f13.f13).lN.swap.lN.swap
     rw [← kM] at X
     have X2 := V.Bf X.f3
     exact ⟨by rw [hE]; rfl, by rw [hS, Iu (x := (wC s.c.L i j l, qy s.c.L i j l, qB s.c.L i j l)) hlen RI]; exact V.Zu (s := { s.jT (qX s.c.L i j l) (qY s.c.L s.c.pt i j l) (vP s.c.L s.c.mark i j l) with put := s.put ++ [(wC s.c.L i j l, qy s.c.L i j l, qB s.c.L i j l)] }) (Iu (x := (wC s.c.L i j l, qy s.c.L i j l, qB s.c.L i j l)) hlen RI ▸ V8 (yY gK _ _ _) hok) (by rw [List.map_append, dD]; rfl) X2⟩
   ·(try simp only [aA] at h3)
    have hlen : (qy s.c.L i j l).length + (qB s.c.L i j l).length = 0 := by omega
    refine gG (bQ O (fB O (dL results188 O ?_)))
    exact ⟨by rw [hE]; rfl, by rw [hS, DX (x := (wC s.c.L i j l, qy s.c.L i j l, qB s.c.L i j l)) hlen]; exact V.iq (s := s.jT (qX s.c.L i j l) (qY s.c.L s.c.pt i j l) (vP s.c.L s.c.mark i j l)) (yY gK _ _ _) dD H5.right.right.right.f11.f11.f11.f11.f11.f11.f11.f11.f11.f10.f11⟩
  ·(try simp only [aA] at h2)
   have hlen : (qy s.c.L i j l).length + (qB s.c.L i j l).length = 0 := by rw [(hno h2).1, (hno h2).2]; rfl
   refine bF (bF (bF (bF (bF (bF (bF (bF (iH O O (iJ (qo (gG (bQ O (fB O (dL results188 O ?_))))))))))))))
   exact ⟨by rw [hE]; rfl, by rw [hS, DX (x := (wC s.c.L i j l, qy s.c.L i j l, qB s.c.L i j l)) hlen]; exact V.iq (s := s.jT (qX s.c.L i j l) (qY s.c.L s.c.pt i j l) (vP s.c.L s.c.mark i j l)) (yY gK _ _ _) dD H5.right.right.right.f11.f11.f11.f11.f11.f11.f11.f11.f11.f10.f11⟩
theorem MR (H : V w0 w (eP e s • F)) (hr : jF w0 F .i32 v l) : iE prog 206 #[.pointer (some ⟨e, 0, none⟩), v] w fun v' w' => v' = .int .i64 (s.Pm l) ∧ V w0 w' (eP e (s.wz l) • F) := by
 refine oV func206 ntmps206 ?_
 refine jQ O (aN (bQ O (dS O func81 (nS H) ?_)))
 rintro _ _ ⟨rfl, rfl⟩
 refine fG O (bQ O (Z (ig O O) (jB O (fun h1 => ?_) (fun h1 => ?_))))
 ·(try simp only [aA] at h1)
  obtain ⟨hin, hpe⟩ := BU h1
  refine bQ O (fB O (aB (dL results206 O ?_)))
  rw [hpe]
  exact ⟨by simp [bn.Pm, bn.wz, bn.qH, bn.nR, hin], by rw [show s.wz l = s from by simp [bn.Pm, bn.wz, bn.qH, bn.nR, hin]]; exact H⟩
 ·(try simp only [aA] at h1)
  have hin := zD h1
  refine gG (aN ?_)
  obtain ⟨wM, wO, wP, wQ, wR, wS, wU, wV, uN, tu, tC, tH, tJ, tK, tN, tV, tX, tY, tZ, uf, gK, dD, kM, iw⟩ := (H).GI
  have XD := iw.drew
  have Bv := V.kp (XD.f11.f11.f11.f11.f11.f11.f11.f11.f11.f11.f11)
  refine yH [5, 11] Bv O (iQ 0 O Bv O (iQ 1 O Bv O (jU 2 O Bv O (gU 3 O Bv 0 ah O aU O (gU 4 O Bv 0 aI O mO O (jO 5 O Bv (fun W hW => jV jH O ((Kp.h hW)).get.2 O) (iQ 7 O Bv O (jU 8 O Bv O (gU 9 O Bv 0 ah O aU O (gU 10 O Bv 0 aI O mO O (jO 11 O Bv (fun W hW => jV jH O ((Kp.h hW)).get.2 O) (iQ 13 O Bv O (mZ 6 O (xq O func127 (xw XD.f2)) ?_)))))))))))))
  rintro _ _ ⟨rfl, rfl⟩
  have Az := V.kp (XD.f11.f11.f11.f11.f11.f11.f11.f11.f11.f11.f11)
  refine eF Az (fun W hW => (Kp.h hW).f11.f11.f11.f11.f11.f11.f11.f11.f11.f11.f11) ?_
  refine mZ 12 O (xq O func127 (xw XD.f2)) ?_
  rintro _ _ ⟨rfl, rfl⟩
  have zq := V.kp (XD.f11.f11.f11.f11.f11.f11.f11.f11.f11.f11.f11)
  refine iG zq (by kernel_rfl) ?_
  have Xg := XD.f11.f11.f11.f11.f11.f11.f11.f11.f11.f11.f11
  have Xh := V.iq (s := s) gK dD Xg
  refine mZ 14 O (xq O func188 (DY Xh (fun W HW => hr _ (HW)))) ?_
  rintro _ w8 ⟨rfl, H8⟩
  have Ie := V.kp (H8)
  refine iG Ie (by kernel_rfl) ?_
  refine jC 15 O Ie (fun _ => dR O) (qV (aX (nI (dL results206 O ?_))))
  exact ⟨O, H8⟩
theorem PU (H : V w0 w (eP e s • F)) : iE prog 200 #[.pointer (some ⟨e, 0, none⟩), .int .i64 i, .int .i64 j] w fun v' w' => v' = .int .i64 (s.qH i j []) ∧ V w0 w' (eP e (s.nR i j []) • F) := by
  refine zT func200 ntmps200 ?_
  refine jQ O (bQ O (jR O O (dS O func188 (DY H (fun W _ => gJ.nil W _ none 0 (by decide))) ?_)))
  rintro _ w1 ⟨rfl, H1⟩
  refine fB O (dL results200 O ?_)
  exact ⟨O, H1⟩
end
theorem XE {E : List (List Int)} {a : Nat} {way : Int} {l : List Int} (h : (Dx E a way l).1 ≠ 0) : (Dx E a way l).2 = (E, a) := by
  unfold Dx at *
  repeat' split at h
  all_goals first | (simp at h; done) | skip
  all_goals (repeat' (first | rw [if_pos (by assumption)] | rw [if_neg (by assumption)])) <;> rfl
theorem XF {s : bn} {i j : Int} {back : Bool} (h : (s.rD i j back).1 ≠ 0) : (s.rD i j back).2 = (s.c.E, s.c.at_) := XE h
theorem RJ (s : bn) : s.jT s.c.L s.c.pt s.c.mark = s := rfl
theorem XG {s : bn} {i j : Int} {l : List Int} (h : s.qH i j l ≠ 0) : s.nR i j l = s := by
  unfold bn.nR bn.qH at *
  split
  · rename_i hin
    rw [if_pos hin] at h
    rw [DX (by rw [(wW h).1, (wW h).2]; rfl)]
    unfold qX qY vP
    rw [if_neg h, if_neg h, if_neg h]
    exact RJ s
  · rfl
theorem Eu {s : bn} {i j : Int} {back : Bool} (h : s.rV i j back ≠ 0) : s.rE i j back = s := by unfold bn.rE; rw [if_neg h]
section
variable {w0 w : World} {F : HP} {e p h pr : Nat} {s : bn} {i j x : Int} {back : Bool} {v : Value} {l : List Int}
theorem RN (H : V w0 w (eP e s • F)) : iE prog 185 #[.pointer (some ⟨e, 0, none⟩), .int .i64 i, .int .i64 j, .bool back] w fun v' w' => v' = .int .i64 (s.rV i j back) ∧ V w0 w' (eP e (s.rE i j back) • F) := by
 refine Qw func185 ntmps185 ?_
 refine jQ O (aN (bQ O (dS O func81 (nS H) ?_)))
 rintro _ _ ⟨rfl, rfl⟩
 refine fG O (bQ O (Z (ig O O) (jB O (fun h1 => ?_) (fun h1 => ?_))))
 ·(try simp only [aA] at h1)
  obtain ⟨hin, hpe⟩ := BU h1
  refine bQ O (fB O (aB (dL results185 O ?_)))
  rw [hpe]
  exact ⟨by simp [bn.rV, bn.rE, hin], by rw [show s.rE i j back = s from by simp [bn.rV, bn.rE, hin]]; exact H⟩
 ·(try simp only [aA] at h1)
  have hin := zD h1
  refine gG (aN (aN ?_))
  obtain ⟨wM, wO, wP, wQ, wR, wS, wU, wV, uN, tu, tC, tH, tJ, tK, tN, tV, tX, tY, tZ, uf, gK, dD, kM, iw⟩ := (H).GI
  have hL : s.c.L.length ≤ 1024 := by obtain ⟨a, c, xs, f, t, h1, h2, h3, h4, h5, h6, h7, hc1, hc2, hl, H1⟩ := (iw.f2).buf; exact h4
  refine aC (bT O (Z (fZ O O) (jG O (fun h2 => ?_) (fun h2 => ?_))))
  ·(try simp only [aA] at h2)
   refine bF (bF (bF (bF (bF (bF (bF (bF (iU O O (bT O (bF (bF (bF (iU O O (bT O (bF (bF (bF (bF (bF (bF (bF (bF (iU O O (iJ (CP (jM O (aB (dL results185 O ?_))))))))))))))))))))))))))))
   have hb : s.qI i j := by unfold bn.qI; omega
   have hc : s.rV i j back = 70 := by unfold bn.rV; rw [if_pos hin, if_pos hb]
   exact ⟨by rw [hc], by rw [Eu (by rw [hc]; decide)]; exact V.iq gK dD iw.f11.f11.f11.f11.f11.f11.f11.f11.f11.f11.f11⟩
  ·(try simp only [aA] at h2)
   refine bg (bT O (bg (bT O (bg (dK O (bg (bJ 0 ah O aU O (bg (bJ 0 aI O mO O (bg (fM jH O (iw).get.2 O (bg (dS O func132 (rQ iw.f2) ?_)))))))))))))
   rintro _ w3 ⟨rfl, hD3⟩
   have HD3 := iw.y7 hD3
   refine bg (Z (dY O O) (iH O O (jG O (fun h3 => ?_) (fun h3 => ?_))))
   ·(try simp only [aA] at h3)
    refine bF (bF (bF (iU O O (bT O (bF (bF (bF (bF (bF (bF (bF (bF (iU O O (iJ (CP (jM O (aB (dL results185 O ?_))))))))))))))))))
    have hb : s.qI i j := by unfold bn.qI; omega
    have hc : s.rV i j back = 70 := by unfold bn.rV; rw [if_pos hin, if_pos hb]
    exact ⟨by rw [hc], by rw [Eu (by rw [hc]; decide)]; exact V.iq gK dD HD3.f11.f11.f11.f11.f11.f11.f11.f11.f11.f11.f11⟩
   ·(try simp only [aA] at h3)
    refine bg (bT O (bg (bT O (bg (Z (fZ O O) (iH O O (jG O (fun h4 => ?_) (fun h4 => ?_))))))))
    ·(try simp only [aA] at h4)
     refine bF (bF (bF (bF (bF (bF (bF (bF (iU O O (iJ (CP (jM O (aB (dL results185 O ?_)))))))))))))
     have hb : s.qI i j := by unfold bn.qI; omega
     have hc : s.rV i j back = 70 := by unfold bn.rV; rw [if_pos hin, if_pos hb]
     exact ⟨by rw [hc], by rw [Eu (by rw [hc]; decide)]; exact V.iq gK dD HD3.f11.f11.f11.f11.f11.f11.f11.f11.f11.f11.f11⟩
    ·(try simp only [aA] at h4)
     refine bg (bT O (bg (bT O (bg (dK O (bg (bJ 0 ah O aU O (bg (bJ 0 aI O mO O (bg (fM jH O (HD3).get.2 O (bg (dS O func132 (rQ HD3.f2) ?_)))))))))))))
     rintro _ w4 ⟨rfl, hD4⟩
     have HD4 := HD3.y7 hD4
     refine bg (Z (dY O O) (iH O O (jB O (fun h5 => ?_) (fun h5 => ?_))))
     ·(try simp only [aA] at h5)
      refine jM O (aB (dL results185 O ?_))
      have hb : s.qI i j := by unfold bn.qI; omega
      have hc : s.rV i j back = 70 := by unfold bn.rV; rw [if_pos hin, if_pos hb]
      exact ⟨by rw [hc], by rw [Eu (by rw [hc]; decide)]; exact V.iq gK dD HD4.f11.f11.f11.f11.f11.f11.f11.f11.f11.f11.f11⟩
     ·(try simp only [aA] at h5)
      refine gG (aN ?_)
      have hb : ¬ s.qI i j := by unfold bn.qI; omega
      have hc : s.rV i j back = (s.rD i j back).1 := by unfold bn.rV; rw [if_pos hin, if_neg hb]
      refine aC (fG O ?_)
      refine kT [(0, _), (1, _), (2, _)] (fun (_ : Unit) => [(10, .int .i64 (s.way back))]) (fun (_ : Unit) W => W = w4) uK ?_ ?_
      ·rintro _ w5 rfl
       dsimp only [List.cons_append, List.nil_append]
       refine aN (aN ?_)
       have acs := HD4.drew
       have vX := V.kp (acs.f11.f11.f11.f11.f11.f11.f11.f11.f11.f11.f11)
       refine yH [4, 10] vX O (iQ 0 O vX O (jU 1 O vX O (gU 2 O vX 0 ah O aU O (gU 3 O vX 1 aI O sizeOf73 O (jO 4 O vX (fun W hW => jV qR O ((Kp.h hW)).get.2 O) (iQ 5 O vX O (iQ 6 O vX O (jU 7 O vX O (gU 8 O vX 0 ah O aU O (gU 9 O vX 0 aI O mO O (jO 10 O vX (fun W hW => jV jH O ((Kp.h hW)).get.2 O) (iQ 12 O vX O (iQ 13 O vX O (mZ 11 O (xq O func126 (yK acs.f2)) ?_))))))))))))))
       rintro u6 w6 H6
       have BR := V.kp (H6.f12.f12.f12.f12.f12.f12.f12.f12.f12.f12.f12.f12)
       refine eF BR (fun W hW => (Kp.h hW).right.f11.f11.f11.f11.f11.f11.f11.f11.f11.f10.f11) ?_
       refine jC 14 O BR (fun _ => zn ((H6).aS) aj bZ O O O (by omega)) ?_
       refine mZ 15 O (xq O func199 (MH H6.f4 (fun W HW => gJ.cut ((HW).aS) (by omega) (by omega)))) ?_
       rintro _ w7 ⟨rfl, H7⟩
       have Bd := V.kp (H7.f12.f12.f12.f12.f12.f12.f12.f12.f12.f12.f12.f12)
       refine iG Bd (by kernel_rfl) ?_
       refine jC 16 O Bd (fun _ => dR O) (qV (aX (bQ O (Z (ig O O) (jB O (fun h6 => ?_) (fun h6 => ?_))))))
       ·(try simp only [aA] at h6)
        refine bQ O (fB O (aB (dL results185 O ?_)))
        exact ⟨by rw [hc]; rfl, by rw [Eu (by rw [hc]; assumption)]; have HX := H7.f2.right.f11.f11.f11.f11.f11.f11.f11.f11.f9.f10.f11; rw [show Dx s.c.E s.c.at_ (s.way back) ((s.c.L.drop i.toNat).take (j.toNat - i.toNat)) = s.rD i j back from O, XF (by assumption)] at HX; exact V.iq gK dD HX⟩
       ·(try simp only [aA] at h6)
        refine gG (bQ O (nG O O (bJ 29 ah O aP O (aJ (eX 29 H7.f4 aP) ?_))))
        rintro _ w8 H8
        refine dK O (bJ 28 ah O ay O (aJ (eX 28 H8 ay) ?_))
        rintro _ w9 H9
        refine iJ (jM O (dL results185 O ?_))
        have hc0 : s.rV i j back = 0 := by rw [hc]; assumption
        have hs : s.rE i j back = { s.Gy (s.rD i j back).2.1 (s.rD i j back).2.2 with killed := true, cls := 1 } := by unfold bn.rE; rw [if_pos hc0]
        exact ⟨by rw [hc0], by rw [hs]; exact V.iq (s := { s.Gy (s.rD i j back).2.1 (s.rD i j back).2.2 with killed := true, cls := 1 }) gK dD H9.f3.right.f11.f11.f11.f11.f11.f11.f11.f11.f10.f11.f11⟩
      ·skip
       refine bQ O (dK O (bJ 0 ah O aU O (bJ 6 aI O ay O (fM aH O (HD4).get.2 O (Z (dX O O) (jG O (fun h7 => ?_) (fun h7 => ?_)))))))
       ·(try simp only [aA] at h7)
        refine bF (bF (bF (bF (iU O O (iJ (CP (jQ O (bQ O (jB O (fun h8 => ?_) (fun h8 => ?_))))))))))
        ·(try simp only [aA] at h8)
         refine aC (iK O (bW ?_))
         refine dw (()) ?_ ?_ ?_
         ·exact (Sub.jv O (by unfold bn.way; simp_all) (Sub.nil _))
         ·exact uK
         ·(try dsimp only)
          first | done | exact rfl
        ·(try simp only [aA] at h8)
         refine cZ ?_
         refine dw (()) ?_ ?_ ?_
         ·exact (Sub.jv O (by unfold bn.way; simp_all) (Sub.nil _))
         ·exact uK
         ·(try dsimp only)
          first | done | exact rfl
       ·(try simp only [aA] at h7)
        refine bg (bT O (bg (dK O (bg (bJ 29 ah O aP O (bg (fM bY O (HD4).get.2 O (iH O O (jB O (fun h9 => ?_) (fun h9 => ?_))))))))))
        ·(try simp only [aA] at h9)
         refine jQ O (bQ O (jB O (fun h10 => ?_) (fun h10 => ?_)))
         ·(try simp only [aA] at h10)
          refine aC (iK O (bW ?_))
          refine dw (()) ?_ ?_ ?_
          ·exact (Sub.jv O (by unfold bn.way; simp_all) (Sub.nil _))
          ·exact uK
          ·(try dsimp only)
           first | done | exact rfl
         ·(try simp only [aA] at h10)
          refine cZ ?_
          refine dw (()) ?_ ?_ ?_
          ·exact (Sub.jv O (by unfold bn.way; simp_all) (Sub.nil _))
          ·exact uK
          ·(try dsimp only)
           first | done | exact rfl
        ·(try simp only [aA] at h9)
         refine cZ ?_
         refine dw (()) ?_ ?_ ?_
         ·exact (Sub.jv O (by unfold bn.way; simp_all) (Sub.nil _))
         ·exact uK
         ·(try dsimp only)
          first | done | exact rfl
theorem RP (H : V w0 w (eP e s • F)) : iE prog 186 #[.pointer (some ⟨e, 0, none⟩), .int .i64 i, .int .i64 j, .bool back] w fun v' w' => v' = .int .i64 (s.EU i j back) ∧ V w0 w' (eP e (s.oD i j back) • F) := by
  refine Qw func186 ntmps186 ?_
  refine jQ O (aN (bQ O (jR O O (bT O (dS O func185 (RN H) ?_)))))
  rintro _ w1 ⟨rfl, H1⟩
  refine fG O (bQ O (Z (ig O O) (jB O (fun h1 => ?_) (fun h1 => ?_))))
  · (try simp only [aA] at h1)
    have hc := h1
    refine bQ O (fB O (aB (dL results186 O ?_)))
    exact ⟨by unfold bn.EU; rw [if_neg hc], by unfold bn.oD; rw [if_neg hc]; have HX := H1; rw [Eu hc] at HX; exact HX⟩
  · (try simp only [aA] at h1)
    have hc := h1
    refine gG (bQ O (jR O O (dS O func200 (PU H1) ?_)))
    rintro _ w2 ⟨rfl, H2⟩
    refine fB O (dL results186 O ?_)
    exact ⟨by unfold bn.EU; rw [if_pos hc], by unfold bn.oD; rw [if_pos hc]; exact H2⟩
theorem RQ {E : List (List Int)} (h : ∀ x ∈ E, x.length ≤ 1024) (k : Nat) : (E.getD k []).length ≤ 1024 := by
  rw [List.getD_eq_getElem?_getD]
  cases hk : E[k]? with
  | none => simp
  | some x => exact h x (List.mem_of_getElem? hk)
theorem RS (H : V w0 w (eP e s • F)) : iE prog 191 #[.pointer (some ⟨e, 0, none⟩)] w fun v' w' => v' = .int .i64 s.rF ∧ V w0 w' (eP e s.jE • F) := by
 refine iZ func191 ntmps191 ?_
 refine jQ O (aN (bQ O (dS O func81 (nS H) ?_)))
 rintro _ _ ⟨rfl, rfl⟩
 refine fG O (bQ O (Z (ig O O) (jB O (fun h1 => ?_) (fun h1 => ?_))))
 ·(try simp only [aA] at h1)
  obtain ⟨hin, hpe⟩ := BU h1
  refine bQ O (fB O (aB (dL results191 O ?_)))
  rw [hpe]
  exact ⟨by simp [bn.rF, bn.jE, hin], by rw [show s.jE = s from by simp [bn.rF, bn.jE, hin]]; exact H⟩
 ·(try simp only [aA] at h1)
  have hin := zD h1
  refine gG (aN ?_)
  obtain ⟨wM, wO, wP, wQ, wR, wS, wU, wV, uN, tu, tC, tH, tJ, tK, tN, tV, tX, tY, tZ, uf, gK, dD, kM, iw⟩ := (H).GI
  have hL : s.c.L.length ≤ 1024 ∧ 0 ≤ s.c.pt ∧ s.c.pt ≤ s.c.L.length := by obtain ⟨a, c, xs, f, t, h1, h2, h3, h4, h5, h6, h7, hc1, hc2, hl, H1⟩ := (iw.f2).buf; exact ⟨h4, h6⟩
  have hR := RQ (J9 (iw.f3)).2.2 s.c.at_
  have hY : s.rF = if s.c.E.length = 0 then 6 else s.Pm s.top := by unfold bn.rF; rw [if_pos hin]
  refine aC (nG O O (bJ 0 ah O aU O (bJ 1 aI O sizeOf73 O (fM qR O (iw).get.2 O (dS O func205 (MJ iw.f3) ?_)))))
  rintro _ w3 ⟨u3, rfl, H3⟩
  refine bT O (uH O O (uH O O (iK O (uZ O (bQ O (Z (ig O O) (jB O (fun h2 => ?_) (fun h2 => ?_))))))))
  ·(try simp only [aA] at h2)
   have h6 : s.c.E.length = 0 := by by_cases hx : s.c.E.length = 0; exact hx; exact absurd (if_neg hx) h2
   rw [if_pos h6] at hY
   refine bQ O (fB O (aB (dL results191 O ?_)))
   exact ⟨by rw [hY]; show Value.int _ (if s.c.E.length = 0 then 6 else 0) = _; rw [if_pos h6], by rw [show s.jE = s from by unfold bn.jE; rw [if_neg (by rw [hY]; decide)]]; exact V.iq gK dD H3.right.f11.f11.f11.f11.f11.f11.f11.f11.f9.f11.f11⟩
  ·(try simp only [aA] at h2)
   have h6 : ¬ s.c.E.length = 0 := fun hx => by rw [if_pos hx] at h2; exact absurd h2 (by decide)
   rw [if_neg h6] at hY
   refine gG (bQ O (dK O (bJ 0 ah O aU O (bJ 0 aI O mO O (fM jH O (H3.f3).get.2 O (dS O func127 (xw H3.f4) ?_))))))
   rintro _ _ ⟨rfl, rfl⟩
   refine iK O ?_
   have Xg := H3.f12.f12.f12.f12.f12.f12.f12.f12.f10.f12.f12
   have Xh := V.iq (s := s) gK dD Xg
   refine qQ (bQ O (bT O (dS O func206 (MR Xh (fun W HW => (HW).aS)) ?_)))
   rintro _ w8 ⟨rfl, H8⟩
   refine fG O (bQ O (Z (ig O O) (jB O (fun h3 => ?_) (fun h3 => ?_))))
   ·(try simp only [aA] at h3)
    have hI : s.Pm s.top ≠ 0 := h3
    refine bQ O (fB O (aB (dL results191 O ?_)))
    exact ⟨by rw [hY]; rfl, by rw [show s.jE = s from by unfold bn.jE; rw [if_neg (by rw [hY]; exact hI)]]; have HX := H8.f2.right; rw [show s.wz (s.c.E.getD s.c.at_ []) = s from XG hI] at HX; exact HX⟩
   ·(try simp only [aA] at h3)
    have hI : s.Pm s.top = 0 := h3
    obtain ⟨wM, wO, wP, wQ, wR, wS, wU, wV, uN, tu, tC, tH, tJ, tK, tN, tV, tX, tY, tZ, uf, gK, dD, kM, iw⟩ := (H8).GI
    refine gG (bQ O (dK O (bJ 0 ah O aU O (bJ 0 aI O mO O (fM jH O (iw).get.2 O (bT O (dS O func207 (Jj iw.f2) ?_)))))))
    rintro _ w10 ⟨rfl, pR⟩
    refine rG O (nG O O (bJ 30 ah O aP O (aJ (eX 30 pR.f2 aP) ?_)))
    rintro _ Fv tq
    refine dK O (bJ 28 ah O ay O (aJ (eX 28 tq ay) ?_))
    rintro _ w12 vZ
    refine rG O (jR O O (jR O O (Z (iM ((vZ.f12).aS) aj O) (Z (fJ O O (by omega)) (dK O (bJ 0 ah O aU O (bJ 7 aI O ay O (aJ (eX 7 vZ ay) ?_))))))))
    rintro _ Qh wo
    refine dK O (bJ 0 ah O aU O (bJ 8 aI O ay O (aJ (eX 8 wo ay) ?_)))
    rintro _ OQ AZ
    refine iJ (jM O (dL results191 O ?_))
    have hs : s.jE = { s.wz s.top with kU := true, cls := 2, c := { (s.wz s.top).c with mark := smM (s.wz s.top).c.L (s.wz s.top).c.mark s.c.pt, fr := s.c.pt, to := s.c.pt + s.top.length } } := by unfold bn.jE; rw [if_pos (hY.trans hI)]
    exact ⟨by rw [hY, hI], by rw [hs]; exact V.iq (s := { s.wz s.top with kU := true, cls := 2, c := { (s.wz s.top).c with mark := smM (s.wz s.top).c.L (s.wz s.top).c.mark s.c.pt, fr := s.c.pt, to := s.c.pt + s.top.length } }) gK dD AZ.f12.right.f11.f11.f11.f11.f11.f11.f11.f11.f11.f11.f11⟩
end
end Go.Proofs.YtpdeedplgmbopaaGreatDoor
end
