import Derived.Test.YtgndbccogcofjaaGreatDoorZ2
import Derived.Test.YtgndbccogcofjaaGreatDoorZ8
import Derived.Test.YtgndbccogcofjaaGreatDoorZ7
import Derived.Test.YtgndbccogcofjaaGreatDoorZ4
set_option linter.unusedSimpArgs false
set_option linter.unusedVariables false
/- Texts of mine, joined, their names in short: LineP BLive Same Apply BufP Ring Ring2. -/
section
namespace Go.Proofs.YtgndbccogcofjaaGreatDoor
open Go.RowKit
open _root_.Go.Proofs.Tryz
def RY (n : Nat) (pt x : Int) : Int := if 0 ≤ x ∧ x ≤ n then x else pt
def VI (n : Nat) (x : Int) : Int := if 0 ≤ x ∧ x ≤ n then 0 else 70
def rE (v : Value) (pt mk : Int) : Array Value := #[v, .int .i64 pt, .int .i64 mk]
theorem OA {v : Value} {pt mk : Int} (h : v.oneCell' = true) : ∀ u ∈ (rE v pt mk).toList, u.oneCell' = true := by
  intro u hu
  simp [rE] at hu
  rcases hu with rfl | rfl | rfl
  · exact h
  · rfl
  · rfl
section
variable {w0 w : World} {F : HP} {p : Nat} {L : List Int} {pt mk x : Int} {v : Value} {l : List Int}
theorem Hw (H : aB w0 w (dW p L pt mk • F)) : fG prog 111 #[.pointer (some ⟨p, 0, none⟩), .int .i64 x] w fun v w' => v = .int .i64 (VI L.length x) ∧ aB w0 w' (dW p L (RY L.length pt x) mk • F) := by
 refine gG func111 ntmps111 ?_
 dsimp only [bf, Nat.reduceAdd]
 refine ay (ah (aV rfl (aA (aj (ay (bF (ay (ah (aN rfl (bW rfl func185 (lQ H) ?_))))))))))
 rintro _ _ ⟨rfl, rfl⟩
 refine aV rfl (aA (aj (aP rfl (fun h1 => ?_) (fun h1 => ?_))))
 ·(try simp only [aF] at h1)
  exfalso; first | contradiction | omega
 ·(try simp only [aF] at h1)
  try (exfalso; first | contradiction | omega)
  all_goals
   refine ay (ah (aN rfl (aU (eF rfl rfl) (eP rfl (fun h2 => ?_) (fun h2 => ?_)))))
   ·(try simp only [aF] at h2)
    try (exfalso; first | contradiction | omega)
    all_goals
     refine bD (bD (bD (bD (fP rfl rfl (aV rfl (aA (aj (wK (ay (ah (aV rfl (aA (aj (aI (aY (aK (aH (.inl rfl) results111 rfl ?_)))))))))))))))))
     exact ⟨by rw [VI, if_neg (by omega)], by rw [RY, if_neg (by omega)]; exact H⟩
   ·(try simp only [aF] at h2)
    try (exfalso; first | contradiction | omega)
    all_goals
     refine aX (aN rfl (aX (aN rfl (aX (bW rfl func186 (lg H) ?_)))))
     rintro _ w2 ⟨rfl, hD⟩
     have HL := H.lW hD
     refine aX (aU (dF rfl rfl) (dL rfl rfl (aV rfl (aA (aj (aP rfl (fun h3 => ?_) (fun h3 => ?_)))))))
     ·(try simp only [aF] at h3)
      try (exfalso; first | contradiction | omega)
      all_goals
       refine ay (ah (aV rfl (aA (aj (aI (aY (aK (aH (.inl rfl) results111 rfl ?_))))))))
       exact ⟨by rw [VI, if_neg (by omega)], by rw [RY, if_neg (by omega)]; exact HL⟩
     ·(try simp only [aF] at h3)
      try (exfalso; first | contradiction | omega)
      all_goals
       refine aO (aQ (aj (ay ?_)))
       obtain ⟨a, c, xs, f, t, h11, h12, h13, h14, h15, h16, h17, hc1, hc2, hl, HB⟩ := HL.buf
       refine ah (aN rfl (aN rfl (bM rfl (bG 4 underlying184 rfl sizeOf3 rfl (aJ (dJ HB sizeOf3 rfl rfl rfl (by rw [je]; decide)) ?_)))))
       rintro _ w3 H3
       rw [tY] at H3
       refine aA (aj (ay (ah (aV rfl (aA (aj (aI (aH (.inl rfl) results111 rfl ?_))))))))
       exact ⟨by rw [VI, if_pos (by omega)], by rw [RY, if_pos (by omega)]; exact aB.kG h11 h12 h13 h14 h15 (by omega) h17 H3⟩
theorem Hy (H : aB w0 w (dW p L pt mk • F)) : fG prog 43 #[.pointer (some ⟨p, 0, none⟩)] w fun v' w' => ∃ u, v' = .agg (rE u pt mk) ∧ aB w0 w' (gW 21 .i32 u L • dW p L pt mk • F) := by
 refine gG func43 ntmps43 ?_
 dsimp only [bf, Nat.reduceAdd]
 refine ay (ah (iy (sQ H zeroValue53) ?_))
 rintro _ w1 ⟨b1, rfl, H1⟩
 refine aA (aj (ay (ah (aN rfl (bW rfl func112 (qZ H1.swap) ?_)))))
 rintro u w2 H2
 obtain ⟨au, cu, hu, _⟩ := (H2.aS).form
 subst hu
 refine aN rfl (bW rfl func113 (qj H2.swap) ?_)
 rintro _ _ ⟨rfl, rfl⟩
 refine aN rfl (bW rfl func114 (Ht H2.swap) ?_)
 rintro _ _ ⟨rfl, rfl⟩
 refine aU (fF (pl := #[(0, 1), (1, 1), (2, 1)]) (rE (.slice au L.length cu) pt mk) underlying53 zeroValue53 (fun w => by kernel_rfl) rfl (by kernel_rfl)) (aJ (dI (cs := rE (.slice au L.length cu) pt mk) H2.EP sizeOf53 rfl rfl rfl rfl (OA rfl)) ?_)
 rintro _ w5 H5
 refine aA (aj (aI ?_))
 refine SI (.inl rfl) results43 rfl underlying53 rfl (by rw [show (prog.info? 53).map (·.size) = some 3 from by kernel_rfl]; rfl) H5.get.2 ?_
 exact ⟨_, rfl, H5.right⟩
end
end Go.Proofs.YtgndbccogcofjaaGreatDoor
end
section
namespace Go.Proofs.YtgndbccogcofjaaGreatDoor
open Go.RowKit
section
variable {w0 w : World} {F : HP} {p : Nat} {L : List Int} {pt mk : Int} {v : Value} {l : List Int}
end
end Go.Proofs.YtgndbccogcofjaaGreatDoor
end
section
namespace Go.Proofs.YtgndbccogcofjaaGreatDoor
open Go.RowKit
end Go.Proofs.YtgndbccogcofjaaGreatDoor
end
section
namespace Go.Proofs.YtgndbccogcofjaaGreatDoor
open Go.RowKit
section
variable {w0 w : World} {F : HP} {p : Nat} {L : List Int} {pt mk a : Int} {d i : Value} {dl il : List Int}
end
end Go.Proofs.YtgndbccogcofjaaGreatDoor
end
section
namespace Go.Proofs.YtgndbccogcofjaaGreatDoor
open Go.RowKit
open _root_.Go.Proofs.Tryz
def jw (L : List Int) (i j : Int) (l : List Int) : Int := if i < 0 ∨ L.length < i ∨ j < i ∨ L.length < j then 70 else if 1024 < L.length - (j - i) + l.length then 3 else 0
def mP (L : List Int) (i j : Int) (l : List Int) : List Int := if jw L i j l = 0 then L.take i.toNat ++ l ++ L.drop j.toNat else L
def nH (L : List Int) (pt i j : Int) (l : List Int) : Int := if jw L i j l = 0 then bI pt i j l.length else pt
def nV (L : List Int) (mk i j : Int) (l : List Int) : Int := if jw L i j l = 0 then bJ mk i j l.length else mk
def pq (L : List Int) (i j : Int) (l : List Int) : Int := if jw L i j l = 0 then i else 0
def ku (L : List Int) (i j : Int) (l : List Int) : List Int := if jw L i j l = 0 then (L.drop i.toNat).take (j - i).toNat else []
def kC (L : List Int) (i j : Int) (l : List Int) : List Int := if jw L i j l = 0 then l else []
section
variable {w0 w : World} {F : HP} {p : Nat} {L : List Int} {pt mk : Int} {v d s : Value} {l dl il : List Int} {i j a x : Int}
theorem BL (H : aB w0 w (dW p L pt mk • F)) (hr : iI w0 F .i32 v l) :
    fG prog 193 #[.pointer (some ⟨p, 0, none⟩), .int .i64 i, .int .i64 j, v] w fun v' w' => ∃ d s, v' = .tuple #[.agg #[.int .i64 (pq L i j l), d, s], .int .i64 (jw L i j l)] ∧
      aB w0 w' (gW 21 .i32 d (ku L i j l) • gW 21 .i32 s (kC L i j l) • dW p (mP L i j l) (nH L pt i j l) (nV L mk i j l) • F) := by
  unfold pq mP nH nV ku kC
  by_cases h1 : i < 0 ∨ L.length < i ∨ j < i ∨ L.length < j
  · have e : jw L i j l = 70 := by unfold jw; rw [if_pos h1]
    simp only [e, show ¬ (70 : Int) = 0 from by decide, if_false]
    exact (BK H hr h1).mono fun v' w' h => ⟨_, _, h.1, (h.2.zk none).zk none⟩
  · have h2 : 0 ≤ i ∧ i ≤ j ∧ j ≤ L.length := by omega
    by_cases h3 : 1024 < L.length - (j - i) + l.length
    · have e : jw L i j l = 3 := by unfold jw; rw [if_neg h1, if_pos h3]
      simp only [e, show ¬ (3 : Int) = 0 from by decide, if_false]
      exact (Af H hr h2 h3).mono fun v' w' h => ⟨_, _, h.1, (h.2.zk none).zk none⟩
    · have e : jw L i j l = 0 := by unfold jw; rw [if_neg h1, if_neg h3]
      simp only [e, if_true]
      obtain ⟨i', rfl⟩ := Int.eq_ofNat_of_zero_le h2.1
      obtain ⟨j', rfl⟩ := Int.eq_ofNat_of_zero_le (show 0 ≤ j by omega)
      have hij : i' ≤ j' ∧ j' ≤ L.length := by omega
      have := Dv (i := i') (j := j') H hr hij (by omega)
      simpa only [Int.toNat_natCast, show ((j' : Int) - (i' : Int)).toNat = j' - i' from by omega, fQ] using this
def ZE (L : List Int) (x : Int) : Int := if x < -1 ∨ L.length < x then 70 else 0
def Xg (L : List Int) (mk x : Int) : Int := if x < -1 ∨ L.length < x then mk else x
theorem BM (H : aB w0 w (dW p L pt mk • F)) : fG prog 207 #[.pointer (some ⟨p, 0, none⟩), .int .i64 x] w fun v' w' => v' = .int .i64 (ZE L x) ∧ aB w0 w' (dW p L pt (Xg L mk x) • F) := by
 unfold ZE Xg
 have hL : L.length ≤ 1024 := by obtain ⟨a, c, xs, f, t, h1, h2, h3, h4, h5, h6, h7, hc1, hc2, hl, H1⟩ := H.buf; exact h4
 refine gG func207 ntmps207 ?_
 dsimp only [bf, Nat.reduceAdd]
 refine ay (ah (aV rfl (aA (aj (ay (bF (ay (ah (aN rfl (bW rfl func185 (lQ H) ?_))))))))))
 rintro _ _ ⟨rfl, rfl⟩
 refine aV rfl (aA (aj (mO (ay (ah (aN rfl (aU (eF rfl rfl) (eP rfl (fun h1 => ?_) (fun h1 => ?_)))))))))
 ·(try simp only [aF] at h1)
  try (exfalso; first | contradiction | omega)
  all_goals
   refine bD (bD (bD (bD (fP rfl rfl (aV rfl (aA (aj (wK (ay (ah (aV rfl (aA (aj (aI (aY (aK (aH (.inl rfl) results207 rfl ?_)))))))))))))))))
   exact ⟨by rw [if_pos (by omega)], by rw [if_pos (by omega)]; exact H⟩
 ·(try simp only [aF] at h1)
  try (exfalso; first | contradiction | omega)
  all_goals
   refine aX (aN rfl (aX (aN rfl (aX (bW rfl func186 (lg H) ?_)))))
   rintro _ w2 ⟨rfl, hD2⟩
   have HD2 := H.lW hD2
   refine aX (aU (dF rfl rfl) (dL rfl rfl (aV rfl (aA (aj (aP rfl (fun h2 => ?_) (fun h2 => ?_)))))))
   ·(try simp only [aF] at h2)
    try (exfalso; first | contradiction | omega)
    all_goals
     refine ay (ah (aV rfl (aA (aj (aI (aY (aK (aH (.inl rfl) results207 rfl ?_))))))))
     exact ⟨by rw [if_pos (by omega)], by rw [if_pos (by omega)]; exact HD2⟩
   ·(try simp only [aF] at h2)
    try (exfalso; first | contradiction | omega)
    all_goals
     refine aO (aQ (aj (ay ?_)))
     obtain ⟨ZF, ZG, ZH, f_p, t_p, Tn, Tq, Tt, Tv, Tz, TA, ZI, ZJ, ZK, XZ, TB⟩ := (HD2).buf
     refine ah (aN rfl (aN rfl (bM rfl (bG 5 underlying184 rfl sizeOf3 rfl (aJ (aT 5 (l' := [_, _, _, _, _, _]) TB sizeOf3 rfl rfl (by first | rfl | assumption) rfl rfl) ?_)))))
     rintro _ w4 H4
     refine aA (aj (ay (ah (aV rfl (aA (aj (aI (aH (.inl rfl) results207 rfl ?_))))))))
     exact ⟨by rw [if_neg (by omega)], by rw [if_neg (by omega)]; exact aB.kG Tn Tq Tt Tv Tz TA (by omega) H4.f2.f2⟩
def swE (mk : Int) : Int := if mk < 0 then 6 else 0
def swP (pt mk : Int) : Int := if mk < 0 then pt else mk
def swM (pt mk : Int) : Int := if mk < 0 then mk else pt
theorem EW (H : aB w0 w (dW p L pt mk • F)) : fG prog 115 #[.pointer (some ⟨p, 0, none⟩)] w fun v' w' => ∃ q, v' = .pointer (some ⟨q, 0, none⟩) ∧ aB w0 w' (dW q L pt mk • dW p L pt mk • F) := by
 refine gG func115 ntmps115 ?_
 dsimp only [bf, Nat.reduceAdd]
 refine ay (ah (aV rfl (aA (aj (ay (ay (ah (aN rfl (bW rfl func185 (lQ H) ?_)))))))))
 rintro _ _ ⟨rfl, rfl⟩
 refine aA (aj (mO (aO (aj (ay ?_)))))
 obtain ⟨ZF, ZG, ZH, f_p, t_p, Tn, Tq, Tt, Tv, Tz, TA, ZI, ZJ, ZK, XZ, TB⟩ := (H).buf
 refine ah (aN rfl (bM rfl (aU (dn underlying184 rfl sizeOf184 rfl rfl (TB).get.2) (iy (gY (l := [_, _, _, _, _, _]) TB zeroValue184 rfl) ?_))))
 rintro _ w3 ⟨b3, rfl, H3⟩
 refine aJ (dG 0 (l' := [_, _, _, _, _, _]) (us := [_, _, _, _, _, _]) H3 sizeOf184 rfl rfl rfl (aC (by first | rfl | assumption) (aC (by first | rfl | exact Rd.one ((H3.f3).aS)) (aC (by first | rfl | assumption) (aC (by first | rfl | assumption) (aC (by first | rfl | assumption) (aC (by first | rfl | assumption) cZ)))))) rfl rfl) ?_
 rintro _ w4 H4
 refine aA (aj (ay (ah (aN rfl (bM rfl (bG 1 underlying184 rfl sizeOf22 rfl (dX underlying22 rfl (H4.f2).get.2 rfl (bW rfl func178 (nG H4 (fun W HW => (HW.f3).aS) (by omega)) ?_))))))))
 rintro u5 w5 H5
 refine bG 1 underlying184 rfl sizeOf22 rfl (aJ (aT 1 (l' := [_, _, _, _, _, _]) H5.f2 sizeOf22 rfl rfl (by first | rfl | exact Rd.one ((H5).aS)) rfl rfl) ?_)
 rintro _ w6 H6
 refine aA (aj (ay (ah (aV rfl (aA (aj (aI (aH (.inl rfl) results115 rfl ?_))))))))
 exact ⟨_, rfl, (aB.kG Tn Tq Tt Tv Tz TA (by omega) (aB.kG Tn Tq Tt Tv Tz TA (by omega) H6.f4.f4.f4.f4).f2.f3.f2).f2⟩
def X0 (L : List Int) (a : Int) (dl : List Int) : Bool := decide ((dl.length : Int) ≤ L.length - a) && ((L.drop a.toNat).take dl.length == dl)
def VJ (L : List Int) (a : Int) (dl il : List Int) : Int := if a < 0 ∨ L.length < a then 70 else if X0 L a dl then jw L a (a + dl.length) il else 71
def ZL (L : List Int) (a : Int) (dl il : List Int) : List Int := if VJ L a dl il = 0 then mP L a (a + dl.length) il else L
def ZM (L : List Int) (pt a : Int) (dl il : List Int) : Int := if VJ L a dl il = 0 then nH L pt a (a + dl.length) il else pt
def ZN (L : List Int) (mk a : Int) (dl il : List Int) : Int := if VJ L a dl il = 0 then nV L mk a (a + dl.length) il else mk
end
end Go.Proofs.YtgndbccogcofjaaGreatDoor
end
section
namespace Go.Proofs.YtgndbccogcofjaaGreatDoor
open Go.RowKit
open _root_.Go.Proofs.Tryz
def bQ (s : List Value) (h n p : Nat) : Array Value := (Value.bool true :: (s ++ [.int .i64 h, .int .i64 n, .int .i64 p])).toArray
section
variable {s : List Value} {h n p : Nat}
theorem iK (hs : s.length = 60) : (bQ s h n p).size = 64 := by simp [bQ, hs]
theorem vN : (bQ s h n p)[0]? = some (.bool true) := by simp [bQ]
theorem F6 (hs : s.length = 60) {i : Nat} (hi : i < 60) : (bQ s h n p)[1 + i]? = some (s.getD i undef) := by
  simp [bQ, Nat.add_comm 1 i, List.getElem?_append_left (show i < s.length by omega), List.getD_eq_getElem?_getD, show i < s.length by omega]
theorem uI (hs : s.length = 60) : (bQ s h n p)[61]? = some (.int .i64 h) := by simp [bQ, hs]
theorem jT (hs : s.length = 60) : (bQ s h n p)[62]? = some (.int .i64 n) := by simp [bQ, hs]
theorem Dw (hs : s.length = 60) : (bQ s h n p)[63]? = some (.int .i64 p) := by simp [bQ, hs]
theorem EX (hs : s.length = 60) (x : Nat) : (bQ s h n p).setIfInBounds 61 (.int .i64 x) = bQ s x n p := by
  apply Array.ext'; simp [bQ, List.set_append, hs]
theorem EY (hs : s.length = 60) (x : Nat) : (bQ s h n p).setIfInBounds 62 (.int .i64 x) = bQ s h x p := by
  apply Array.ext'; simp [bQ, List.set_append, hs]
theorem iT (hs : s.length = 60) (x : Nat) : (bQ s h n p).setIfInBounds 63 (.int .i64 x) = bQ s h n x := by
  apply Array.ext'; simp [bQ, List.set_append, hs]
theorem tZ (hs : s.length = 60) {i : Nat} (hi : i < 60) (v : Value) : (bQ s h n p).setIfInBounds (1 + i) v = bQ (s.set i v) h n p := by
  apply Array.ext'; simp [bQ, Nat.add_comm 1 i, List.set_append, hs, hi]
end
def Jv (I : Hp) (s : List Value) (h : Nat) (E : List (List Int)) : Prop := ∀ i, i < E.length → xQ I .i32 (s.getD ((h + i) % 60) undef) (E.getD i [])
def vO (s : List Value) (h : Nat) (E : List (List Int)) : HP := know (fun I => Jv I s h E) fun _ _ hl hk i hi => (hk i hi).mono hl
def dw (p : Nat) (E : List (List Int)) (place : Nat) : HP := tN fun (x : List Value × Nat) =>
  fact (x.1.length = 60 ∧ x.2 < 60 ∧ E.length ≤ 60 ∧ (place < E.length ∨ place = 0) ∧ (∀ e ∈ E, e.length ≤ 1024) ∧ ∀ v ∈ x.1, v.oneCell' = true) • dH p (.cells (bQ x.1 x.2 E.length place) 170 (0, 0)) • vO x.1 x.2 E
section
variable {w0 w : World} {F : HP} {p place : Nat} {E : List (List Int)}
theorem aB.ring (H : aB w0 w (dw p E place • F)) : ∃ s h, s.length = 60 ∧ h < 60 ∧ E.length ≤ 60 ∧ (place < E.length ∨ place = 0) ∧ (∀ e ∈ E, e.length ≤ 1024) ∧ (∀ v ∈ s, v.oneCell' = true) ∧ aB w0 w (dH p (.cells (bQ s h E.length place) 170 (0, 0)) • vO s h E • F) := by
  obtain ⟨⟨s, h⟩, H⟩ := H.ng
  obtain ⟨⟨h1, h2, h3, h4, h5, h6⟩, H⟩ := H.flat.fact
  exact ⟨s, h, h1, h2, h3, h4, h5, h6, H.flat⟩
theorem aB.nX {s : List Value} {h : Nat} (h1 : s.length = 60) (h2 : h < 60) (h3 : E.length ≤ 60) (h4 : place < E.length ∨ place = 0) (h5 : ∀ e ∈ E, e.length ≤ 1024) (h6 : ∀ v ∈ s, v.oneCell' = true) (H : aB w0 w (dH p (.cells (bQ s h E.length place) 170 (0, 0)) • vO s h E • F)) : aB w0 w (dw p E place • F) :=
  aB.iH (s, h) (aB.deep (aB.kE ⟨h1, h2, h3, h4, h5, h6⟩ H.deep))
theorem Hz (H : aB w0 w F) : fG prog 109 #[] w fun v w' => ∃ p, v = .pointer (some ⟨p, 0, none⟩) ∧ aB w0 w' (dw p [] 0 • F) := by
 refine gG func109 ntmps109 ?_
 dsimp only [bf, Nat.reduceAdd]
 refine ay (ah (aV rfl (aA (aj (ay (ah (aU (fF (pl := #[(0, 1), (1, 60), (61, 1), (62, 1), (63, 1)]) (bQ (List.replicate 60 (.slice none 0 0)) 0 0 0) underlying170 zeroValue170 (fun w => by kernel_rfl) rfl (by kernel_rfl)) (iy (MR H rfl) ?_))))))))
 rintro _ w1 ⟨b1, rfl, H1⟩
 refine aV rfl (aA (aj (aI (aH (.inl rfl) results109 rfl ?_))))
 refine ⟨b1, rfl, aB.nX (s := List.replicate 60 (.slice none 0 0)) (h := 0) (by simp) (by omega) (by simp) (.inr rfl) (by simp) (by intro v hv; rw [List.eq_of_mem_replicate hv]; rfl) ?_⟩
 exact aB.swap (aB.GY (fun I i hi => by simp at hi) H1)
theorem iL (t : TypeId) {cs : Array Value} {fr : Nat × Nat} {m : Bool} (hb : w.heap[p]? = some (.cells cs t fr)) (h0 : cs[0]? = some (.bool m)) :
  fG prog 177 #[.pointer (some ⟨p, 0, none⟩)] w fun v w' => v = .bool (!m) ∧ w = w' := by
 refine gG func177 ntmps177 ?_
 dsimp only [bf, Nat.reduceAdd]
 refine ay (ah (aV rfl (aA (aj (ay (ah (aN rfl (aU (iq underlying28 rfl rfl) (eP rfl (fun h => by exfalso; (try simp only [aF] at h); simp at h) (fun h1 => ?_))))))))))
 (try simp only [aF] at h1)
 refine aX (aN rfl (aX (bM rfl (aX (bG 0 underlying170 rfl sizeOf4 rfl (aX (dX underlying4 rfl hb h0 (aX (aU (jY rfl) (dL rfl rfl (aV rfl (aA (aj (aI (aH (.inl rfl) results177 rfl ?_)))))))))))))))
 exact ⟨rfl, rfl⟩
theorem aB.wR {s : List Value} {h i : Nat} (H : aB w0 w (vO s h E • F)) (hi : i < E.length) : iw w .i32 (s.getD ((h + i) % 60) undef) (E.getD i []) := let ⟨I, k, hI⟩ := H.vw; (k i hi).rd hI
theorem qG {s : List Value} {h n m : Nat} {t : TypeId} {fr : Nat × Nat} {k : Nat} (hs : s.length = 60) (hh : h < 60) (hk : k < 60) (hb : w.heap[p]? = some (.cells (bQ s h n m) t fr)) :
  fG prog 179 #[.pointer (some ⟨p, 0, none⟩), .int .i64 k] w fun v w' => v = s.getD ((h + k) % 60) undef ∧ rZ w w' := by
 refine gG func179 ntmps179 ?_
 dsimp only [bf, Nat.reduceAdd]
 refine ay (ah (aV rfl (aA (aj (ay ?_)))))
 refine kM (n := 13) [0, 1, 2, 3, 4, 5, 6, 7, 8, 9, 10, 11, 12] (fun W => W.heap = w.heap) (by kernel_rfl) (by kernel_rfl) rfl ?_
 have hS0 : (fun W => W.heap = w.heap) (w.drew) := rfl
 refine iD 0 rfl hS0 rfl (iD 1 rfl hS0 rfl (jS 2 rfl hS0 rfl (gV 3 rfl hS0 61 underlying170 rfl sizeOf3 rfl ?_)))
 refine jB 4 rfl hS0 (fun W hW => jR underlying3 rfl (by rw [hW]; exact hb) (uI hs)) ?_
 refine iD 5 rfl hS0 rfl (jr 6 rfl hS0 (fun _ => fC rfl rfl (by omega)) ?_)
 refine jr 7 rfl hS0 (fun _ => FM rfl rfl (by omega) (by  omega)) ?_
 refine jS 8 rfl hS0 rfl (gV 9 rfl hS0 1 underlying170 rfl sizeOf168 rfl (jr 10 rfl hS0 (fun _ => sO underlying168 sizeOf22 rfl rfl (by omega)) ?_))
 refine jB 11 rfl hS0 (fun W hW => jR underlying22 rfl (by rw [hW]; exact hb) (by rw [show (1 + (((h : Int) + (k : Int)) % 60).toNat * 1) = 1 + (h + k) % 60 from by omega]; exact F6 hs (by omega))) ?_
 refine jr 12 rfl hS0 (fun _ => eH rfl) (qQ (aj (aI (aH (.inl rfl) results179 rfl ?_))))
 exact ⟨rfl, ⟨1, rfl⟩⟩
theorem HY {s : List Value} {u : Value} {i : Nat} (h : ∀ v ∈ s, v.oneCell' = true) (hu : u.oneCell' = true) : ∀ v ∈ s.set i u, v.oneCell' = true := by
  intro v hv
  rcases List.mem_or_eq_of_mem_set hv with hv | rfl
  · exact h v hv
  · exact hu
theorem Lc {I : Hp} {s : List Value} {h : Nat} {l : List Int} {v : Value} (hs : s.length = 60) (hh : h < 60) (hE : E.length ≤ 60) (hS : Jv I s h E) (hv : xQ I .i32 v l) :
    Jv I (s.set ((h + 59) % 60) v) ((h + 59) % 60) ((l :: E).take 60) := by
  intro i hi
  have abT : i < 60 ∧ i < E.length + 1 := by simp at hi; omega
  rw [List.getD_eq_getElem?_getD (l := (l :: E).take 60), List.getElem?_take, if_pos (by omega)]
  cases i with
  | zero =>
    have e : ((h + 59) % 60 + 0) % 60 = (h + 59) % 60 := by omega
    rw [e, List.getD_eq_getElem?_getD, List.getElem?_set_self (by omega)]
    exact hv
  | succ i =>
    have e : ((h + 59) % 60 + (i + 1)) % 60 = (h + i) % 60 := by omega
    have hne : ¬ (h + 59) % 60 = (h + i) % 60 := by omega
    rw [e, List.getD_eq_getElem?_getD, List.getElem?_set_ne hne, ← List.getD_eq_getElem?_getD]
    have := hS i (by omega)
    simpa [List.getD_eq_getElem?_getD] using this
theorem ql {v : Value} {l : List Int} (H : aB w0 w (dw p E place • F)) (hr : iI w0 F .i32 v l) (hl : l.length ≤ 1024) :
    fG prog 245 #[.pointer (some ⟨p, 0, none⟩), v] w fun _ w' => aB w0 w' (dw p ((l :: E).take 60) 0 • F) := by
  obtain ⟨s, h, hs, hh, hE, hp, hm, ho, H⟩ := H.ring
  have hh' : (h + 59) % 60 < 60 := by omega
  refine gG func245 ntmps245 ?_
  dsimp only [bf, Nat.reduceAdd]
  refine ay (ah (aN rfl (aN rfl (bM rfl (bG 61 underlying170 rfl sizeOf3 rfl (dX underlying3 rfl H.get.2 (uI hs) (aU (fC rfl rfl (by omega)) (aU (iP rfl rfl (by omega)) ?_))))))))
  refine aU (FM rfl rfl (by omega) (by  omega)) ?_
  refine bM rfl (bG 61 underlying170 rfl sizeOf3 rfl (aJ (dJ H sizeOf3 rfl rfl rfl (by rw [iK hs]; decide)) ?_))
  rintro _ w1 H1
  rw [show (((h : Int) + 60 - 1) % 60) = (((h + 59) % 60 : Nat) : Int) from by omega, EX hs] at H1
  refine aA (aj (ay ?_))
  refine kM (n := 11) [0, 1, 2, 3, 4, 5, 6, 7, 8, 9, 10] (fun W => W.heap[p]? = some (.cells (bQ s ((h + 59) % 60) E.length place) 170 (0, 0))) (by kernel_rfl) (by kernel_rfl) rfl ?_
  have hS0 : (fun W => W.heap[p]? = some (.cells (bQ s ((h + 59) % 60) E.length place) 170 (0, 0))) (w1.drew) := H1.get.2
  have H1d := H1.drew
  refine iD 0 rfl hS0 rfl (iD 1 rfl hS0 rfl (jS 2 rfl hS0 rfl (gV 3 rfl hS0 61 underlying170 rfl sizeOf3 rfl (jB 4 rfl hS0 (fun W hW => jR underlying3 rfl hW (uI hs)) (iD 5 rfl hS0 rfl (jS 7 rfl hS0 rfl (gV 8 rfl hS0 1 underlying170 rfl sizeOf168 rfl (kQ 6 rfl (wJ rfl func178 (nG H1d hr.under.under (by omega))) ?_))))))))
  rintro u w2 H2
  have hS2 : (fun W => W.heap[p]? = some (.cells (bQ s ((h + 59) % 60) E.length place) 170 (0, 0))) w2 := H2.swap.get.2
  refine zf hS2 ?_
  refine jr 9 rfl hS2 (fun _ => sO underlying168 sizeOf22 rfl rfl (by omega)) ?_
  refine gI 10 rfl (by kernel_rfl) (dJ H2.swap sizeOf22 rfl rfl H2.aS.one (by rw [iK hs]; omega)) ?_
  rintro _ w3 H3
  rw [show (1 + ((((h + 59) % 60 : Nat) : Int)).toNat * 1) = 1 + (h + 59) % 60 from by omega, tZ hs hh'] at H3
  have hs' : (s.set ((h + 59) % 60) u).length = 60 := by simp [hs]
  have ho' := HY ho (u := u) (i := (h + 59) % 60) H2.aS.one
  refine CW (by kernel_rfl) ?_
  refine qQ (aj (ay (ah (aN rfl (aN rfl (bM rfl (bG 62 underlying170 rfl sizeOf3 rfl (dX underlying3 rfl H3.get.2 (jT hs') (aU (fC rfl rfl (by omega)) (aU (UC rfl rfl) (bM rfl (bG 62 underlying170 rfl sizeOf3 rfl (aJ (dJ H3 sizeOf3 rfl rfl rfl (by rw [iK hs']; decide)) ?_)))))))))))))
  rintro _ w4 H4
  rw [show min ((E.length : Int) + 1) 60 = ((min (E.length + 1) 60 : Nat) : Int) from by omega, EY hs'] at H4
  refine aA (aj (ah (aN rfl (bM rfl (bG 63 underlying170 rfl sizeOf3 rfl (aJ (dJ H4 sizeOf3 rfl rfl rfl (by rw [iK hs']; decide)) ?_))))))
  rintro _ w5 H5
  rw [show (Value.int .i64 0) = .int .i64 ((0 : Nat) : Int) from rfl, iT hs'] at H5
  refine aA (gU (.inr rfl) results245 ?_)
  have hlen : ((l :: E).take 60).length = min (E.length + 1) 60 := by simp; omega
  refine aB.nX hs' hh' (by omega) (.inr rfl) ?_ ho' ?_
  · intro e he
    rcases List.mem_cons.1 (List.mem_of_mem_take he) with rfl | he
    · exact hl
    · exact hm e he
  · rw [hlen]
    exact (H5.swap.kF.EP.ES (qB (fun I a b => Lc hs hh hE a b) _)).swap
end
end Go.Proofs.YtgndbccogcofjaaGreatDoor
end
section
namespace Go.Proofs.YtgndbccogcofjaaGreatDoor
open Go.RowKit
open _root_.Go.Proofs.Tryz
def wS (E : List (List Int)) (place : Nat) (way : Int) (l : List Int) : Int × List (List Int) × Nat :=
  if way < 0 ∨ 2 < way then (1, E, place)
  else if 1024 < l.length then (3, E, place)
  else if way ≠ 0 ∧ 0 < E.length then
    if 1024 < l.length + (E.getD 0 []).length then (3, E, place)
    else (0, (if way = 1 then E.getD 0 [] ++ l else l ++ E.getD 0 []) :: E.tail, 0)
  else if way = 0 ∧ l.length = 0 then (0, E, place)
  else (0, (l :: E).take 60, 0)
theorem Bo {I : Hp} {s : List Value} {h : Nat} {l : List Int} {v : Value} {E : List (List Int)} (hs : s.length = 60) (hh : h < 60) (hE : E.length ≤ 60) (h0 : 0 < E.length) (hS : Jv I s h E) (hv : xQ I .i32 v l) :
    Jv I (s.set h v) h (l :: E.tail) := by
  intro i hi
  have hi' : i < E.length := by simp at hi; omega
  cases i with
  | zero =>
    have e : (h + 0) % 60 = h := by omega
    rw [e, List.getD_eq_getElem?_getD, List.getElem?_set_self (by omega)]
    exact hv
  | succ i =>
    have hne : ¬ h = (h + (i + 1)) % 60 := by omega
    rw [List.getD_eq_getElem?_getD, List.getElem?_set_ne hne, ← List.getD_eq_getElem?_getD]
    have := hS (i + 1) hi'
    simpa [List.getD_eq_getElem?_getD] using this
section
variable {w0 w : World} {F : HP} {p place : Nat} {E : List (List Int)} {v : Value} {l : List Int} {way : Int}
theorem qo (h0 : 0 < E.length) (x : List Int) : (x :: E.tail).length = E.length := by simp; omega
theorem EZ (H : aB w0 w (dw p E place • F)) (hr : iI w0 F .i32 v l) (hw : way < 0 ∨ 2 < way) :
  fG prog 233 #[.pointer (some ⟨p, 0, none⟩), .int .i64 way, v] w fun v' w' => v' = .int .i64 1 ∧ aB w0 w' (dw p E place • F) := by
 obtain ⟨s, h, hs, hh, hE, hp, hm, ho, H1⟩ := H.ring
 have hb := H1.get.2
 refine gG func233 ntmps233 ?_
 dsimp only [bf, Nat.reduceAdd]
 refine ay (ah (aV rfl (aA (aj (ay (ay (ah (aN rfl (bW rfl func177 (iL _ hb vN) ?_)))))))))
 rintro _ _ ⟨rfl, rfl⟩
 refine aA (aj (mO (aO (aj (ay (ay (ah (aN rfl (aU (eF rfl rfl) (eP rfl (fun h1 => ?_) (fun h1 => ?_)))))))))))
 ·(try simp only [aF] at h1)
  try (exfalso; first | contradiction | omega)
  all_goals
   refine bD (bD (fP rfl rfl (aA (aj (wK (ay (ah (aV rfl (aA (aj (aI (aK (aH (.inl rfl) results233 rfl ?_)))))))))))))
   exact ⟨rfl, H⟩
 ·(try simp only [aF] at h1)
  try (exfalso; first | contradiction | omega)
  all_goals
   refine aX (aN rfl (aX (aU (dF rfl rfl) (dL rfl rfl (aA (aj (aP rfl (fun h2 => ?_) (fun h => by exfalso; (try simp only [aF] at h); first | contradiction | omega | (simp at h <;> omega)))))))))
   (try simp only [aF] at h2)
   refine ay (ah (aV rfl (aA (aj (aI (aK (aH (.inl rfl) results233 rfl ?_)))))))
   exact ⟨rfl, H⟩
theorem Dx (H : aB w0 w (dw p E place • F)) (hr : iI w0 F .i32 v l) (hw : 0 ≤ way ∧ way ≤ 2) (hl : 1024 < l.length) :
  fG prog 233 #[.pointer (some ⟨p, 0, none⟩), .int .i64 way, v] w fun v' w' => v' = .int .i64 3 ∧ aB w0 w' (dw p E place • F) := by
 obtain ⟨s, h, hs, hh, hE, hp, hm, ho, H1⟩ := H.ring
 have hb := H1.get.2
 obtain ⟨a, c, rfl, _, _, _⟩ := (hr w H.right).open
 refine gG func233 ntmps233 ?_
 dsimp only [bf, Nat.reduceAdd]
 refine ay (ah (aV rfl (aA (aj (ay (ay (ah (aN rfl (bW rfl func177 (iL _ hb vN) ?_)))))))))
 rintro _ _ ⟨rfl, rfl⟩
 refine aA (aj (mO (aO (aj (ay (ay (ah (aN rfl (aU (eF rfl rfl) (eP rfl (fun h => by exfalso; (try simp only [aF] at h); first | contradiction | omega | (simp at h <;> omega)) (fun h1 => ?_)))))))))))
 (try simp only [aF] at h1)
 refine aX (aN rfl (aX (aU (dF rfl rfl) (dL rfl rfl (aA (aj (aP rfl (fun h => by exfalso; (try simp only [aF] at h); first | contradiction | omega | (simp at h <;> omega)) (fun h2 => ?_))))))))
 (try simp only [aF] at h2)
 refine aO (aj (ay (ah (aN rfl (aU (bY rfl rfl) (eP rfl (fun h3 => ?_) (fun h3 => ?_)))))))
 ·(try simp only [aF] at h3)
  try (exfalso; first | contradiction | omega)
  all_goals
   refine aX (aN rfl (aX (bM rfl (aX (bG 62 underlying170 rfl sizeOf3 rfl (aX (dX underlying3 rfl hb (jT hs) (aX (aU (dF rfl rfl) (fP rfl rfl (aV rfl (aA (aj (ay (bF (ay (ah (aN rfl (aU (fO underlying22 rfl) (aU (dF rfl rfl) (eP rfl (fun h4 => ?_) (fun h => by exfalso; (try simp only [aF] at h); first | contradiction | omega | (simp at h <;> omega)))))))))))))))))))))))
   (try simp only [aF] at h4)
   refine bD (bD (iQ (iQ (iQ (iQ (iQ (iQ (iQ (bD (fP rfl rfl (aV rfl (aA (aj (wK (ay (ah (aV rfl (aA (aj (aI (aY (aK (aH (.inl rfl) results233 rfl ?_)))))))))))))))))))))))
   exact ⟨rfl, H⟩
 ·(try simp only [aF] at h3)
  try (exfalso; first | contradiction | omega)
  all_goals
   refine bD (bD (bD (bD (bD (dL rfl rfl (aV rfl (aA (aj (ay (bF (ay (ah (aN rfl (aU (fO underlying22 rfl) (aU (dF rfl rfl) (eP rfl (fun h5 => ?_) (fun h => by exfalso; (try simp only [aF] at h); first | contradiction | omega | (simp at h <;> omega))))))))))))))))))
   (try simp only [aF] at h5)
   refine bD (bD (iQ (iQ (iQ (iQ (iQ (iQ (iQ (bD (fP rfl rfl (aV rfl (aA (aj (wK (ay (ah (aV rfl (aA (aj (aI (aY (aK (aH (.inl rfl) results233 rfl ?_)))))))))))))))))))))))
   exact ⟨rfl, H⟩
theorem zy (H : aB w0 w (dw p E place • F)) (hr : iI w0 F .i32 v l) (hl : l.length = 0) :
  fG prog 233 #[.pointer (some ⟨p, 0, none⟩), .int .i64 0, v] w fun v' w' => v' = .int .i64 0 ∧ aB w0 w' (dw p E place • F) := by
 obtain ⟨s, h, hs, hh, hE, hp, hm, ho, H1⟩ := H.ring
 have hb := H1.get.2
 obtain ⟨a, c, rfl, _, _, _⟩ := (hr w H.right).open
 refine gG func233 ntmps233 ?_
 dsimp only [bf, Nat.reduceAdd]
 refine ay (ah (aV rfl (aA (aj (ay (ay (ah (aN rfl (bW rfl func177 (iL _ hb vN) ?_)))))))))
 rintro _ _ ⟨rfl, rfl⟩
 refine aA (aj (mO (aO (aj (ay (ay (ah (aN rfl (aU (eF rfl rfl) (eP rfl (fun h => by exfalso; (try simp only [aF] at h); first | contradiction | omega | (simp at h <;> omega)) (fun h1 => ?_)))))))))))
 (try simp only [aF] at h1)
 refine aX (aN rfl (aX (aU (dF rfl rfl) (dL rfl rfl (aA (aj (aP rfl (fun h => by exfalso; (try simp only [aF] at h); first | contradiction | omega | (simp at h <;> omega)) (fun h2 => ?_))))))))
 (try simp only [aF] at h2)
 refine aO (aj (ay (ah (aN rfl (aU (bY rfl rfl) (eP rfl (fun h => by exfalso; (try simp only [aF] at h); first | contradiction | omega | (simp at h <;> omega)) (fun h3 => ?_)))))))
 (try simp only [aF] at h3)
 refine bD (bD (bD (bD (bD (dL rfl rfl (aV rfl (aA (aj (ay (bF (ay (ah (aN rfl (aU (fO underlying22 rfl) (aU (dF rfl rfl) (eP rfl (fun h => by exfalso; (try simp only [aF] at h); first | contradiction | omega | (simp at h <;> omega)) (fun h4 => ?_)))))))))))))))))
 (try simp only [aF] at h4)
 refine aX (aN rfl (aX (aN rfl (bD (bD (bD (bD (bD (bD (bD (aX (dL rfl rfl (dL rfl rfl (aV rfl (aA (aj (mO (ay (ah (aN rfl (aU (fE rfl rfl) (eP rfl (fun h5 => ?_) (fun h => by exfalso; (try simp only [aF] at h); first | contradiction | omega | (simp at h <;> omega))))))))))))))))))))))))
 (try simp only [aF] at h5)
 refine aX (aN rfl (aX (aU (fO underlying22 rfl) (aX (aU (fE rfl rfl) (fP rfl rfl (aV rfl (aA (aj (aP rfl (fun h6 => ?_) (fun h => by exfalso; (try simp only [aF] at h); first | contradiction | omega | (simp at h <;> omega))))))))))))
 (try simp only [aF] at h6)
 refine ay (ah (aV rfl (aA (aj (aI (aY (aK (aH (.inl rfl) results233 rfl ?_))))))))
 exact ⟨rfl, H⟩
theorem E5 (H : aB w0 w (dw p E place • F)) (hr : iI w0 F .i32 v l) (hw : 0 ≤ way ∧ way ≤ 2) (hl : l.length ≤ 1024) (hj : way = 0 ∨ E.length = 0) (hn : ¬ (way = 0 ∧ l.length = 0)) :
  fG prog 233 #[.pointer (some ⟨p, 0, none⟩), .int .i64 way, v] w fun v' w' => v' = .int .i64 0 ∧ aB w0 w' (dw p ((l :: E).take 60) 0 • F) := by
 obtain ⟨s, h, hs, hh, hE, hp, hm, ho, H1⟩ := H.ring
 have hb := H1.get.2
 obtain ⟨a, c, hv, _, _, _⟩ := (hr w H.right).open
 subst hv
 refine gG func233 ntmps233 ?_
 dsimp only [bf, Nat.reduceAdd]
 refine ay (ah (aV rfl (aA (aj (ay (ay (ah (aN rfl (bW rfl func177 (iL _ hb vN) ?_)))))))))
 rintro _ _ ⟨rfl, rfl⟩
 refine aA (aj (mO (aO (aj (ay (ay (ah (aN rfl (aU (eF rfl rfl) (eP rfl (fun h => by exfalso; (try simp only [aF] at h); first | contradiction | omega | (simp at h <;> omega)) (fun h1 => ?_)))))))))))
 (try simp only [aF] at h1)
 refine aX (aN rfl (aX (aU (dF rfl rfl) (dL rfl rfl (aA (aj (aP rfl (fun h => by exfalso; (try simp only [aF] at h); first | contradiction | omega | (simp at h <;> omega)) (fun h2 => ?_))))))))
 (try simp only [aF] at h2)
 refine aO (aj (ay (ah (aN rfl (aU (bY rfl rfl) (eP rfl (fun h3 => ?_) (fun h3 => ?_)))))))
 ·(try simp only [aF] at h3)
  try (exfalso; first | contradiction | omega)
  all_goals
   refine aX (aN rfl (aX (bM rfl (aX (bG 62 underlying170 rfl sizeOf3 rfl (aX (dX underlying3 rfl hb (jT hs) (aX ?_))))))))
   refine aU (FI (dF rfl rfl) (by first | (rw [decide_eq_true_eq]; omega) | (rw [decide_eq_false_iff_not]; omega) | (rw [beq_iff_eq]; omega) | (rw [beq_eq_false_iff_ne]; omega) | (rw [bne_iff_ne]; omega) | (rw [bne_eq_false_iff_eq]; omega) | (simp; done) | (simp; omega))) ?_
   refine fP rfl rfl (aV rfl (aA (aj (ay (bF (ay (ah (aN rfl (aU (fO underlying22 rfl) (aU (dF rfl rfl) (eP rfl (fun h => by exfalso; (try simp only [aF] at h); first | contradiction | omega | (simp at h <;> omega)) (fun h4 => ?_))))))))))))
   (try simp only [aF] at h4)
   refine aX (aN rfl (aX (aN rfl (bD (bD (bD (bD (bD (bD (bD (aX (dL rfl rfl (dL rfl rfl (aV rfl (aA (aj (mO (ay (ah (aN rfl (aU (fE rfl rfl) (eP rfl (fun h5 => ?_) (fun h5 => ?_)))))))))))))))))))))))
   ·(try simp only [aF] at h5)
    try (exfalso; first | contradiction | omega)
    all_goals
     refine aX (aN rfl (aX (aU (fO underlying22 rfl) (aX (aU (fE rfl rfl) (fP rfl rfl (aV rfl (aA (aj (aP rfl (fun h => by exfalso; (try simp only [aF] at h); first | contradiction | omega | (simp at h <;> omega)) (fun h6 => ?_)))))))))))
     (try simp only [aF] at h6)
     refine ay (ah (aN rfl (aU (jY rfl) (aV rfl (aA (aj (aP rfl (fun h7 => ?_) (fun h7 => ?_))))))))
     ·(try simp only [aF] at h7)
      try (exfalso; first | contradiction | omega)
      all_goals
       refine ah (aN rfl (aN rfl (bW rfl func245 (ql H hr hl) ?_)))
       rintro _ w2 H7
       obtain ⟨s2, h2, hs2, hh2, hE2, hp2, hm2, ho2, H2⟩ := H7.ring
       refine aA (aQ (aj (ay (ah (aN rfl (bM rfl (bG 63 underlying170 rfl sizeOf3 rfl (aJ (dJ H2 sizeOf3 rfl rfl rfl (by rw [iK hs2]; decide)) ?_))))))))
       rintro _ w3 H8
       rw [show (Value.int .i64 0) = .int .i64 ((0 : Nat) : Int) from rfl, iT hs2] at H8
       refine aA (aj (ay (ah (aV rfl (aA (aj (aI (aH (.inl rfl) results233 rfl ?_))))))))
       exact ⟨rfl, aB.nX hs2 hh2 hE2 hp2 hm2 ho2 H8⟩
     ·(try simp only [aF] at h7)
      try (exfalso; first | contradiction | omega)
      all_goals
       refine ay (ah (aN rfl (aU (fE rfl rfl) (aV rfl (aA (aj (aP rfl (fun h8 => ?_) (fun h8 => ?_))))))))
       ·(try simp only [aF] at h8)
        exfalso; first | contradiction | omega
       ·(try simp only [aF] at h8)
        exfalso; first | contradiction | omega
   ·(try simp only [aF] at h5)
    try (exfalso; first | contradiction | omega)
    all_goals
     refine bD (bD (bD (dL rfl rfl (aV rfl (aA (aj (mO (ay (ah (aN rfl (aU (jY rfl) (aV rfl (aA (aj (aP rfl (fun h9 => ?_) (fun h9 => ?_))))))))))))))))
     ·(try simp only [aF] at h9)
      try (exfalso; first | contradiction | omega)
      all_goals
       refine ah (aN rfl (aN rfl (bW rfl func245 (ql H hr hl) ?_)))
       rintro _ MX H7
       obtain ⟨s2, h2, hs2, hh2, hE2, hp2, hm2, ho2, H2⟩ := H7.ring
       refine aA (aQ (aj (ay (ah (aN rfl (bM rfl (bG 63 underlying170 rfl sizeOf3 rfl (aJ (dJ H2 sizeOf3 rfl rfl rfl (by rw [iK hs2]; decide)) ?_))))))))
       rintro _ Pq H8
       rw [show (Value.int .i64 0) = .int .i64 ((0 : Nat) : Int) from rfl, iT hs2] at H8
       refine aA (aj (ay (ah (aV rfl (aA (aj (aI (aH (.inl rfl) results233 rfl ?_))))))))
       exact ⟨rfl, aB.nX hs2 hh2 hE2 hp2 hm2 ho2 H8⟩
     ·(try simp only [aF] at h9)
      try (exfalso; first | contradiction | omega)
      all_goals
       refine ay (ah (aN rfl (aU (fE rfl rfl) (aV rfl (aA (aj (aP rfl (fun h10 => ?_) (fun h10 => ?_))))))))
       ·(try simp only [aF] at h10)
        exfalso; first | contradiction | omega
       ·(try simp only [aF] at h10)
        exfalso; first | contradiction | omega
 ·(try simp only [aF] at h3)
  try (exfalso; first | contradiction | omega)
  all_goals
   refine bD (bD (bD (bD (bD (dL rfl rfl (aV rfl (aA (aj (ay (bF (ay (ah (aN rfl (aU (fO underlying22 rfl) (aU (dF rfl rfl) (eP rfl (fun h => by exfalso; (try simp only [aF] at h); first | contradiction | omega | (simp at h <;> omega)) (fun h11 => ?_)))))))))))))))))
   (try simp only [aF] at h11)
   refine aX (aN rfl (aX (aN rfl (bD (bD (bD (bD (bD (bD (bD (aX (dL rfl rfl (dL rfl rfl (aV rfl (aA (aj (mO (ay (ah (aN rfl (aU (fE rfl rfl) (eP rfl (fun h12 => ?_) (fun h12 => ?_)))))))))))))))))))))))
   ·(try simp only [aF] at h12)
    try (exfalso; first | contradiction | omega)
    all_goals
     refine aX (aN rfl (aX (aU (fO underlying22 rfl) (aX (aU (fE rfl rfl) (fP rfl rfl (aV rfl (aA (aj (aP rfl (fun h => by exfalso; (try simp only [aF] at h); first | contradiction | omega | (simp at h <;> omega)) (fun h13 => ?_)))))))))))
     (try simp only [aF] at h13)
     refine ay (ah (aN rfl (aU (jY rfl) (aV rfl (aA (aj (aP rfl (fun h14 => ?_) (fun h14 => ?_))))))))
     ·(try simp only [aF] at h14)
      try (exfalso; first | contradiction | omega)
      all_goals
       refine ah (aN rfl (aN rfl (bW rfl func245 (ql H hr hl) ?_)))
       rintro _ Xa H7
       obtain ⟨s2, h2, hs2, hh2, hE2, hp2, hm2, ho2, H2⟩ := H7.ring
       refine aA (aQ (aj (ay (ah (aN rfl (bM rfl (bG 63 underlying170 rfl sizeOf3 rfl (aJ (dJ H2 sizeOf3 rfl rfl rfl (by rw [iK hs2]; decide)) ?_))))))))
       rintro _ Xb H8
       rw [show (Value.int .i64 0) = .int .i64 ((0 : Nat) : Int) from rfl, iT hs2] at H8
       refine aA (aj (ay (ah (aV rfl (aA (aj (aI (aH (.inl rfl) results233 rfl ?_))))))))
       exact ⟨rfl, aB.nX hs2 hh2 hE2 hp2 hm2 ho2 H8⟩
     ·(try simp only [aF] at h14)
      try (exfalso; first | contradiction | omega)
      all_goals
       refine ay (ah (aN rfl (aU (fE rfl rfl) (aV rfl (aA (aj (aP rfl (fun h15 => ?_) (fun h15 => ?_))))))))
       ·(try simp only [aF] at h15)
        exfalso; first | contradiction | omega
       ·(try simp only [aF] at h15)
        exfalso; first | contradiction | omega
   ·(try simp only [aF] at h12)
    try (exfalso; first | contradiction | omega)
    all_goals
     refine bD (bD (bD (dL rfl rfl (aV rfl (aA (aj (mO (ay (ah (aN rfl (aU (jY rfl) (aV rfl (aA (aj (aP rfl (fun h16 => ?_) (fun h16 => ?_))))))))))))))))
     ·(try simp only [aF] at h16)
      try (exfalso; first | contradiction | omega)
      all_goals
       refine ah (aN rfl (aN rfl (bW rfl func245 (ql H hr hl) ?_)))
       rintro _ Xd H7
       obtain ⟨s2, h2, hs2, hh2, hE2, hp2, hm2, ho2, H2⟩ := H7.ring
       refine aA (aQ (aj (ay (ah (aN rfl (bM rfl (bG 63 underlying170 rfl sizeOf3 rfl (aJ (dJ H2 sizeOf3 rfl rfl rfl (by rw [iK hs2]; decide)) ?_))))))))
       rintro _ Zw H8
       rw [show (Value.int .i64 0) = .int .i64 ((0 : Nat) : Int) from rfl, iT hs2] at H8
       refine aA (aj (ay (ah (aV rfl (aA (aj (aI (aH (.inl rfl) results233 rfl ?_))))))))
       exact ⟨rfl, aB.nX hs2 hh2 hE2 hp2 hm2 ho2 H8⟩
     ·(try simp only [aF] at h16)
      try (exfalso; first | contradiction | omega)
      all_goals
       refine ay (ah (aN rfl (aU (fE rfl rfl) (aV rfl (aA (aj (aP rfl (fun h17 => ?_) (fun h17 => ?_))))))))
       ·(try simp only [aF] at h17)
        exfalso; first | contradiction | omega
       ·(try simp only [aF] at h17)
        exfalso; first | contradiction | omega
theorem E8 (H : aB w0 w (dw p E place • F)) (hr : iI w0 F .i32 v l) (hw : 0 < way ∧ way ≤ 2) (hl : l.length ≤ 1024) (hE0 : 0 < E.length) (hj : 1024 < l.length + (E.getD 0 []).length) :
  fG prog 233 #[.pointer (some ⟨p, 0, none⟩), .int .i64 way, v] w fun v' w' => v' = .int .i64 3 ∧ aB w0 w' (dw p E place • F) := by
 obtain ⟨s, h, hs, hh, hE, hp, hm, ho, H1⟩ := H.ring
 have hb := H1.get.2
 obtain ⟨a, c, hv, _, _, _⟩ := (hr w H.right).open
 subst hv
 have hm0 : (E.getD 0 []).length ≤ 1024 := hm _ (by rw [List.getD_eq_getElem?_getD, List.getElem?_eq_getElem hE0]; simp)
 refine gG func233 ntmps233 ?_
 dsimp only [bf, Nat.reduceAdd]
 refine ay (ah (aV rfl (aA (aj (ay (ay (ah (aN rfl (bW rfl func177 (iL _ hb vN) ?_)))))))))
 rintro _ _ ⟨rfl, rfl⟩
 refine aA (aj (mO (aO (aj (ay (ay (ah (aN rfl (aU (eF rfl rfl) (eP rfl (fun h => by exfalso; (try simp only [aF] at h); first | contradiction | omega | (simp at h <;> omega)) (fun h1 => ?_)))))))))))
 (try simp only [aF] at h1)
 refine aX (aN rfl (aX (aU (dF rfl rfl) (dL rfl rfl (aA (aj (aP rfl (fun h => by exfalso; (try simp only [aF] at h); first | contradiction | omega | (simp at h <;> omega)) (fun h2 => ?_))))))))
 (try simp only [aF] at h2)
 refine aO (aj (ay (ah (aN rfl (aU (bY rfl rfl) (eP rfl (fun h3 => ?_) (fun h => by exfalso; (try simp only [aF] at h); first | contradiction | omega | (simp at h <;> omega))))))))
 (try simp only [aF] at h3)
 refine aX (aN rfl (aX (bM rfl (aX (bG 62 underlying170 rfl sizeOf3 rfl (aX (dX underlying3 rfl hb (jT hs) (aX ?_))))))))
 refine aU (xw (dF rfl rfl) (by first | (rw [decide_eq_true_eq]; omega) | (rw [decide_eq_false_iff_not]; omega) | (rw [beq_iff_eq]; omega) | (rw [beq_eq_false_iff_ne]; omega) | (rw [bne_iff_ne]; omega) | (rw [bne_eq_false_iff_eq]; omega) | (simp; done) | (simp; omega))) ?_
 refine fP rfl rfl (aV rfl (aA (aj (ay (bF (ay (ah (aN rfl (aU (fO underlying22 rfl) (aU (dF rfl rfl) (eP rfl (fun h => by exfalso; (try simp only [aF] at h); first | contradiction | omega | (simp at h <;> omega)) (fun h4 => ?_))))))))))))
 (try simp only [aF] at h4)
 refine aX (aN rfl (aX (aN rfl (aX (aN rfl (aX (aU (fO underlying22 rfl) (aX (aN rfl (aX (bW rfl func179 (qG (k := 0) hs hh (by omega) hb) ?_)))))))))))
 rintro _ w2 ⟨rfl, hD⟩
 obtain ⟨a0, c0, e0, _, _, _⟩ := ((H1.lW hD).right.wR (i := 0) hE0).open
 rw [e0]
 refine aX (aU (fO underlying22 rfl) (aX (aU (iP rfl rfl (by omega)) (aX ?_))))
 refine aU (xw (dF rfl rfl) (by first | (rw [decide_eq_true_eq]; omega) | (rw [decide_eq_false_iff_not]; omega) | (rw [beq_iff_eq]; omega) | (rw [beq_eq_false_iff_ne]; omega) | (rw [bne_iff_ne]; omega) | (rw [bne_eq_false_iff_eq]; omega) | (simp; done) | (simp; omega))) ?_
 refine aX (fP rfl rfl (dL rfl rfl (aV rfl (aA (aj (wK (ay (ah (aV rfl (aA (aj (aI (aY (aK (aH (.inl rfl) results233 rfl ?_)))))))))))))))
 exact ⟨rfl, H.lW hD⟩
theorem Dy (H : aB w0 w (dw p E place • F)) (hr : iI w0 F .i32 v l) (hw : 0 < way ∧ way ≤ 2) (hE0 : 0 < E.length) (hj : l.length + (E.getD 0 []).length ≤ 1024) :
    fG prog 233 #[.pointer (some ⟨p, 0, none⟩), .int .i64 way, v] w fun v' w' => v' = .int .i64 0 ∧ aB w0 w' (dw p ((if way = 1 then E.getD 0 [] ++ l else l ++ E.getD 0 []) :: E.tail) 0 • F) := by
  obtain ⟨s, h, hs, hh, hE, hp, hm, ho, H⟩ := H.ring
  have hb := H.get.2
  obtain ⟨a, c, hv, _, _, _⟩ := (hr w H.right.right).open
  subst hv
  have hm0 : (E.getD 0 []).length ≤ 1024 := hm _ (by rw [List.getD_eq_getElem?_getD, List.getElem?_eq_getElem hE0]; simp)
  have abB := F6 (h := h) (n := E.length) (p := place) hs (i := (h + 0) % 60) (by omega)
  refine gG func233 ntmps233 ?_
  dsimp only [bf, Nat.reduceAdd]
  refine ay (ah (aV rfl (aA (aj (ay (ay (ah (aN rfl (bW rfl func177 (iL _ hb vN) ?_)))))))))
  rintro _ _ ⟨rfl, rfl⟩
  refine aA (aj (mO (aO (aj (ay (ay (ah (aN rfl (aU (eF rfl rfl) (eP rfl (fun h => by exfalso; (try simp only [aF] at h); first | contradiction | omega | (simp at h <;> omega)) (fun h1 => ?_)))))))))))
  (try simp only [aF] at h1)
  refine aX (aN rfl (aX (aU (dF rfl rfl) (dL rfl rfl (aA (aj (aP rfl (fun h => by exfalso; (try simp only [aF] at h); first | contradiction | omega | (simp at h <;> omega)) (fun h2 => ?_))))))))
  (try simp only [aF] at h2)
  refine aO (aj (ay (ah (aN rfl (aU (bY rfl rfl) (eP rfl (fun h3 => ?_) (fun h => by exfalso; (try simp only [aF] at h); first | contradiction | omega | (simp at h <;> omega))))))))
  (try simp only [aF] at h3)
  refine aX (aN rfl (aX (bM rfl (aX (bG 62 underlying170 rfl sizeOf3 rfl (aX (dX underlying3 rfl hb (jT hs) (aX ?_))))))))
  refine aU (xw (dF rfl rfl) (by first | (rw [decide_eq_true_eq]; omega) | (rw [decide_eq_false_iff_not]; omega) | (rw [beq_iff_eq]; omega) | (rw [beq_eq_false_iff_ne]; omega) | (rw [bne_iff_ne]; omega) | (rw [bne_eq_false_iff_eq]; omega) | (simp; done) | (simp; omega))) ?_
  refine fP rfl rfl (aV rfl (aA (aj (ay (bF (ay (ah (aN rfl (aU (fO underlying22 rfl) (aU (dF rfl rfl) (eP rfl (fun h => by exfalso; (try simp only [aF] at h); first | contradiction | omega | (simp at h <;> omega)) (fun h4 => ?_))))))))))))
  (try simp only [aF] at h4)
  refine aX (aN rfl (aX (aN rfl (aX (aN rfl (aX (aU (fO underlying22 rfl) (aX (aN rfl (aX (bW rfl func179 (qG (k := 0) hs hh (by omega) hb) ?_)))))))))))
  rintro _ w2 ⟨rfl, hD⟩
  obtain ⟨a0, c0, e0, _, _, _⟩ := ((H.lW hD).right.wR (i := 0) hE0).open
  rw [e0]
  have oZ := H.lW hD
  refine aX (aU (fO underlying22 rfl) (aX (aU (iP rfl rfl (by omega)) (aX ?_))))
  refine aU (FI (dF rfl rfl) (by first | (rw [decide_eq_true_eq]; omega) | (rw [decide_eq_false_iff_not]; omega) | (rw [beq_iff_eq]; omega) | (rw [beq_eq_false_iff_ne]; omega) | (rw [bne_iff_ne]; omega) | (rw [bne_eq_false_iff_eq]; omega) | (simp; done) | (simp; omega))) ?_
  refine aX (fP rfl rfl (dL rfl rfl (aV rfl (aA (aj (mO (ay (ah (aN rfl (aU (fE rfl rfl) (eP rfl (fun h => by exfalso; (try simp only [aF] at h); first | contradiction | omega | (simp at h <;> omega)) (fun h5 => ?_))))))))))))
  (try simp only [aF] at h5)
  refine bD (bD (bD (dL rfl rfl (aV rfl (aA (aj (mO (ay (ah (aN rfl (aU (jY rfl) (aV rfl (aA (aj (aP rfl (fun h => by exfalso; (try simp only [aF] at h); first | contradiction | omega | (simp at h <;> omega)) (fun h6 => ?_))))))))))))))))
  (try simp only [aF] at h6)
  refine ay (ah (aN rfl (aU (fE rfl rfl) (aV rfl (aA (aj (aP rfl (fun h7 => ?_) (fun h7 => ?_))))))))
  · (try simp only [aF] at h7)
    try (exfalso; first | contradiction | omega)
    all_goals
      have hw1 : way = 1 := by omega
      refine kM (n := 14) [0, 1, 2, 3, 4, 5, 6, 7, 8, 9, 10, 11, 12, 13] (fun W => W.heap[p]? = some (.cells (bQ s h E.length place) 170 (0, 0))) (by kernel_rfl) (by kernel_rfl) rfl ?_
      have hS0 : (fun W => W.heap[p]? = some (.cells (bQ s h E.length place) 170 (0, 0))) (w2.drew) := oZ.get.2
      have Jw := oZ.drew
      refine iD 0 rfl hS0 rfl (iD 1 rfl hS0 rfl (jS 2 rfl hS0 rfl (gV 3 rfl hS0 61 underlying170 rfl sizeOf3 rfl (jB 4 rfl hS0 (fun W hW => jR underlying3 rfl hW (uI hs)) (iD 5 rfl hS0 rfl (iD 7 rfl hS0 rfl (jS 10 rfl hS0 rfl (gV 11 rfl hS0 1 underlying170 rfl sizeOf168 rfl (kQ 6 rfl (wJ rfl func179 (qG (k := 0) hs hh (by omega) Jw.get.2)) ?_)))))))))
      rintro _ w3 ⟨rfl, hD2⟩
      have yh := Jw.lW hD2
      have hS3 : (fun W => W.heap[p]? = some (.cells (bQ s h E.length place) 170 (0, 0))) w3 := yh.get.2
      refine zf hS3 ?_
      refine kQ 8 rfl (MS (vs := [s.getD ((h + 0) % 60) undef, .slice a l.length c]) yh underlying54 sizeOf22 zeroValue22 rfl rfl rfl (by decide) (by rw [e0]; simp [Value.oneCell'])) ?_
      rintro _ w4 ⟨b2, rfl, H4⟩
      have hS4 : (fun W => W.heap[p]? = some (.cells (bQ s h E.length place) 170 (0, 0))) w4 := H4.swap.get.2
      refine zf hS4 ?_
      refine kQ 9 rfl (wJ rfl func128 (wQ H4 (fun W HW => HW.right.right.wR (i := 0) hE0) hr.under.under.under (by omega))) ?_
      rintro u w5 H5
      have qF := H5.EP
      have hS5 : (fun W => W.heap[p]? = some (.cells (bQ s h E.length place) 170 (0, 0))) w5 := qF.get.2
      refine zf hS5 ?_
      refine jr 12 rfl hS5 (fun _ => sO underlying168 sizeOf22 rfl rfl (by omega)) ?_
      refine gI 13 rfl (by kernel_rfl) (dJ qF sizeOf22 rfl rfl H5.aS.one (by rw [iK hs]; omega)) ?_
      rintro _ w6 G6
      rw [show (1 + ((h : Int)).toNat * 1) = 1 + h from by omega, tZ hs hh] at G6
      have hs' : (s.set h u).length = 60 := by simp [hs]
      have ho' := HY ho (u := u) (i := h) H5.aS.one
      refine CW (by kernel_rfl) ?_
      refine qQ (aQ (aj (ay (ah (aN rfl (bM rfl (bG 63 underlying170 rfl sizeOf3 rfl (aJ (dJ G6 sizeOf3 rfl rfl rfl (by rw [iK hs']; decide)) ?_))))))))
      rintro _ w7 y5
      rw [show (Value.int .i64 0) = .int .i64 ((0 : Nat) : Int) from rfl, iT hs'] at y5
      have Jd := y5.swap.kF
      refine aA (aj (ay (ah (aV rfl (aA (aj (aI (aH (.inl rfl) results233 rfl ?_))))))))
      refine ⟨rfl, aB.nX hs' hh (by rw [qo hE0]; omega) (.inr rfl) ?_ ho' ?_⟩
      · intro e he
        rcases List.mem_cons.1 he with rfl | he
        · first | (rw [if_pos hw1, List.length_append]; omega) | (rw [if_neg (by omega), List.length_append]; omega)
        · exact hm e (List.mem_of_mem_tail he)
      · rw [qo hE0]
        first | rw [if_pos hw1] | rw [if_neg (by omega)]
        exact (Jd.r4.swap.ES (qB (fun I a b => Bo hs hh hE hE0 b a) _)).EP.right.swap
  · (try simp only [aF] at h7)
    try (exfalso; first | contradiction | omega)
    all_goals
      have hw2 : way = 2 := by omega
      refine kM (n := 14) [0, 1, 2, 3, 4, 5, 6, 7, 8, 9, 10, 11, 12, 13] (fun W => W.heap[p]? = some (.cells (bQ s h E.length place) 170 (0, 0))) (by kernel_rfl) (by kernel_rfl) rfl ?_
      have hS0 : (fun W => W.heap[p]? = some (.cells (bQ s h E.length place) 170 (0, 0))) (w2.drew) := oZ.get.2
      have H6d := oZ.drew
      refine iD 0 rfl hS0 rfl (iD 1 rfl hS0 rfl (jS 2 rfl hS0 rfl (gV 3 rfl hS0 61 underlying170 rfl sizeOf3 rfl (jB 4 rfl hS0 (fun W hW => jR underlying3 rfl hW (uI hs)) (iD 5 rfl hS0 rfl (iD 6 rfl hS0 rfl (jS 10 rfl hS0 rfl (gV 11 rfl hS0 1 underlying170 rfl sizeOf168 rfl (kQ 7 rfl (wJ rfl func179 (qG (k := 0) hs hh (by omega) H6d.get.2)) ?_)))))))))
      rintro _ w8 ⟨rfl, hD2⟩
      have yh := H6d.lW hD2
      have hS8 : (fun W => W.heap[p]? = some (.cells (bQ s h E.length place) 170 (0, 0))) w8 := yh.get.2
      refine zf hS8 ?_
      refine kQ 8 rfl (MS (vs := [.slice a l.length c, s.getD ((h + 0) % 60) undef]) yh underlying54 sizeOf22 zeroValue22 rfl rfl rfl (by decide) (by rw [e0]; simp [Value.oneCell'])) ?_
      rintro _ w9 ⟨b2, rfl, H9⟩
      have hS9 : (fun W => W.heap[p]? = some (.cells (bQ s h E.length place) 170 (0, 0))) w9 := H9.swap.get.2
      refine zf hS9 ?_
      refine kQ 9 rfl (wJ rfl func128 (wQ H9 hr.under.under.under (fun W HW => HW.right.right.wR (i := 0) hE0) (by omega))) ?_
      rintro u w10 oZ
      have qF := oZ.EP
      have X3 : (fun W => W.heap[p]? = some (.cells (bQ s h E.length place) 170 (0, 0))) w10 := qF.get.2
      refine zf X3 ?_
      refine jr 12 rfl X3 (fun _ => sO underlying168 sizeOf22 rfl rfl (by omega)) ?_
      refine gI 13 rfl (by kernel_rfl) (dJ qF sizeOf22 rfl rfl oZ.aS.one (by rw [iK hs]; omega)) ?_
      rintro _ KG G6
      rw [show (1 + ((h : Int)).toNat * 1) = 1 + h from by omega, tZ hs hh] at G6
      have hs' : (s.set h u).length = 60 := by simp [hs]
      have ho' := HY ho (u := u) (i := h) oZ.aS.one
      refine CW (by kernel_rfl) ?_
      refine qQ (aQ (aj (ay (ah (aN rfl (bM rfl (bG 63 underlying170 rfl sizeOf3 rfl (aJ (dJ G6 sizeOf3 rfl rfl rfl (by rw [iK hs']; decide)) ?_))))))))
      rintro _ w12 y5
      rw [show (Value.int .i64 0) = .int .i64 ((0 : Nat) : Int) from rfl, iT hs'] at y5
      have Jd := y5.swap.kF
      refine aA (aj (ay (ah (aV rfl (aA (aj (aI (aH (.inl rfl) results233 rfl ?_))))))))
      refine ⟨rfl, aB.nX hs' hh (by rw [qo hE0]; omega) (.inr rfl) ?_ ho' ?_⟩
      · intro e he
        rcases List.mem_cons.1 he with rfl | he
        · first | (rw [if_pos hw1, List.length_append]; omega) | (rw [if_neg (by omega), List.length_append]; omega)
        · exact hm e (List.mem_of_mem_tail he)
      · rw [qo hE0]
        first | rw [if_pos hw1] | rw [if_neg (by omega)]
        exact (Jd.r4.swap.ES (qB (fun I a b => Bo hs hh hE hE0 b a) _)).EP.right.swap
end
end Go.Proofs.YtgndbccogcofjaaGreatDoor
end
