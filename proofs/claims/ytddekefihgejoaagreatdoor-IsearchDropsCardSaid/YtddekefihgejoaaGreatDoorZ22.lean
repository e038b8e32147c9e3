import Derived.Test.YtddekefihgejoaaGreatDoorZ2
import Derived.Test.YtddekefihgejoaaGreatDoorZ21
import Derived.Test.YtddekefihgejoaaGreatDoorCards
import Derived.Test.YtddekefihgejoaaGreatDoorZ5
import Derived.Test.YtddekefihgejoaaGreatDoorZ6
import Derived.SevenTiedAt
set_option linter.unusedSimpArgs false
set_option linter.unusedVariables false
/- Runes that were added and dropped leave a search as it was, and nothing of the editor is changed: IsearchDrops in its first form, as the card states it, for whatever the program's variables hold as its text lays them. No condition beside the form's own.
Texts of mine, joined, their names in short: LawIsDrops HasIsDrops. -/
section
namespace Go.Proofs.YtddekefihgejoaaGreatDoor
open Go.RowKit
open _root_.Go.Proofs.Tryz
def ZA (s : bH) : StM := ⟨s.c.pt, s.c.mark, s.c.mode, s.c.over, s.given, s.minus, s.arg, s.NT, s.ZM, s.ZN, s.c.place, s.Md, s.c.res, s.ql⟩
def KZ (S0 : SS) : Nat → SS → Prop
  | 0, S => S = S0
  | n + 1, S => S.was.length ≠ 0 ∧ KZ S0 n S.xK
theorem Np (S : SS) (l : List Int) (h : ¬ 1024 < S.now.pat.length + l.length) (hl : ¬ l.length = 0) : (S.lT l).xK = S ∧ (S.lT l).was.length ≠ 0 := by
  have e : S.lT l = (S.more l).qR S.now.at_ := by unfold SS.lT; rw [if_neg h, if_neg hl]
  obtain ⟨h1, h2, h3, h4, h5⟩ := EZ (S.more l) S.now.at_
  have hw : (S.lT l).was = S.was ++ [S.now] := by rw [e, h3]; rfl
  have hne : (S.lT l).was.length ≠ 0 := by rw [hw]; simp
  refine ⟨?_, hne⟩
  unfold SS.xK
  rw [if_neg hne, hw]
  have hL : (S.lT l).L = S.L := by rw [e, h1]; rfl
  have hla : (S.lT l).last = S.last := by rw [e, h2]; rfl
  rw [hL, hla]
  obtain ⟨L, last, now, was⟩ := S
  simp [List.getD_eq_getElem?_getD]
theorem Fg (S : SS) (l : List Int) : S.lU l = 3 ↔ 1024 < S.now.pat.length + l.length := by
  unfold SS.lU
  split
  · rename_i h; exact ⟨fun _ => h, fun _ => rfl⟩
  · rename_i h
    refine ⟨fun c => ?_, fun c => absurd c h⟩
    split at c
    · cases c
    · unfold SS.EW at c; split at c <;> cases c
theorem La (S : SS) (l : List Int) (h : S.was.length ≤ S.now.pat.length) : (S.lT l).was.length ≤ (S.lT l).now.pat.length := by
  by_cases h1 : 1024 < S.now.pat.length + l.length
  · have e : S.lT l = S := by unfold SS.lT; rw [if_pos h1]
    rw [e]; exact h
  · by_cases h2 : l.length = 0
    · have e : S.lT l = S := by unfold SS.lT; rw [if_neg h1, if_pos h2]
      rw [e]; exact h
    · have e : S.lT l = (S.more l).qR S.now.at_ := by unfold SS.lT; rw [if_neg h1, if_neg h2]
      obtain ⟨_, _, h3, h4, _⟩ := EZ (S.more l) S.now.at_
      rw [e, h3, h4]
      show (S.was ++ [S.now]).length ≤ (S.now.pat ++ l).length
      rw [List.length_append, List.length_append, List.length_singleton]; omega
theorem Qd {w0 w : World} {F : HP} {p : Nat} {S : SS} (H : aA w0 w (dZ p S • F)) : yu S := by obtain ⟨_, _, _, _, _, _, h, _⟩ := H.search; exact h
theorem GL {w : World} {hv lv tv fv rv : Value} {l : List lg} {place pt : Int} {back : Bool} (hT : tu w) (g1 : Rd w 2 hv l.length (l.flatMap iM)) {ln : List Int} (g2 : iI w .i32 lv ln) (hb : l.length ≤ 5864062014805) (hm : qX l ≠ 0 ∨ 1024 < ln.length) :
  fQ prog 5 #[.agg #[hv, lv, .int .i64 place, tv, .int .i64 pt], .bool back, fv, rv] w fun v w' => v = .bool true ∧ Below w.heap.size w w' := by
 obtain ⟨F, H⟩ : ∃ F, aA w w F := ⟨_, aA.start w⟩
 have q1 : Aq w F 2 hv l.length (l.flatMap iM) := Aq.pX g1 F
 have q2 : gV w F .i32 lv ln := gV.pX g2 F
 have hbad : ∀ G W, aA w W (G • F) → fQ prog 10 #[.agg #[hv, lv, .int .i64 place, tv, .int .i64 pt]] W fun v w' => v = .pointer none ∧ aA w w' (G • F) := fun G W HW => by
  by_cases h1 : qX l = 0
  ·exact P7 HW (fun W' ZB => q1 _ ZB.right) (fun W' ZB => q2 _ ZB.right) hb h1 (hm.resolve_left (fun c => c h1))
  ·exact P6 HW (fun W' ZB => q1 _ ZB.right) hb h1
 refine iw func5 ntmps5 ?_
 dsimp only [aZ, Nat.reduceAdd]
 refine ay (ah (gB (ig (l := [_, _, _, _, _]) H rfl rfl) ?_))
 rintro _ w1 ⟨b1, rfl, H1⟩
 refine aW rfl (aB (aj (ay (ah (aU (bQ underlying26 rfl sizeOf26 rfl rfl (H1).get.2) (dD rfl func10 (hbad _ _ H1) ?_))))))
 rintro _ w2 ⟨rfl, H2⟩
 refine aW rfl (aB (aj (ay (ay (ah (dD rfl func9 (GK H2 hT) ?_))))))
 rintro _ w3 ⟨rfl, H3⟩
 refine aU (jT rfl) (aB (aj (pW (aQ (aj (ay (ay (ah (aP rfl (aU (fO underlying30 rfl rfl) (aB (aj (aO rfl (fun h1 => ?_) (fun h => by exfalso; (try simp only [aG] at h); simp at h))))))))))))))
 (try simp only [aG] at h1)
 refine ay (ah (aW rfl (aB (aj (aN (aK (aT (.inl rfl) results5 rfl ?_)))))))
 exact ⟨rfl, H3.base⟩
theorem FQ {w : World} {hv lv tv fv rv : Value} {l : List lg} {ln ty first rs : List Int} {place pt : Int} {back : Bool} (hT : tu w) (g1 : Rd w 2 hv l.length (l.flatMap iM)) (g2 : iI w .i32 lv ln) (g3 : iI w .i32 tv ty) (g4 : iI w .i32 fv first) (g5 : iI w .i32 rv rs)
  (hb : l.length ≤ 5864062014805) (hm : qX l = 0) (hln : ln.length ≤ 1024) (hRL : sV ln) (hfl : first.length ≤ 35184372087808) (hrl : rs.length ≤ 35184372087808) :
  fQ prog 5 #[.agg #[hv, lv, .int .i64 place, tv, .int .i64 pt], .bool back, fv, rv] w fun v w' => v = .bool true ∧ Below w.heap.size w w' := by
 obtain ⟨F, H⟩ : ∃ F, aA w w F := ⟨_, aA.start w⟩
 have q1 : Aq w F 2 hv l.length (l.flatMap iM) := Aq.pX g1 F
 have q2 : gV w F .i32 lv ln := gV.pX g2 F
 have q3 : gV w F .i32 tv ty := gV.pX g3 F
 have q4 : gV w F .i32 fv first := gV.pX g4 F
 have q5 : gV w F .i32 rv rs := gV.pX g5 F
 obtain ⟨E0, hE0⟩ : ∃ E0, TF l ln place ty pt = E0 := ⟨_, rfl⟩
 refine iw func5 ntmps5 ?_
 dsimp only [aZ, Nat.reduceAdd]
 refine ay (ah (gB (ig (l := [_, _, _, _, _]) H rfl rfl) ?_))
 rintro _ w1 ⟨b1, rfl, H1⟩
 refine aW rfl (aB (aj (ay (ah (aU (bQ underlying26 rfl sizeOf26 rfl rfl (H1).get.2) (dD rfl func10 (GH H1 (fun W HW => q1 _ (HW.right)) (fun W HW => q2 _ (HW.right)) (fun W HW => q3 _ (HW.right)) (by omega) hm hln hT hRL) ?_))))))
 rintro _ w2 ⟨e2, rfl, H2⟩
 rw [hE0] at H2
 refine aW rfl (aB (aj (ay (ay (ah (dD rfl func9 (GK H2 hT) ?_))))))
 rintro _ w3 ⟨rfl, H3⟩
 refine aU (jT rfl) (aB (aj (pW (aQ (aj (ay (ay (ah (aP rfl (aU (fO underlying30 rfl rfl) (aB (aj (aO rfl (fun h => by exfalso; (try simp only [aG] at h); simp at h) (fun h1 => ?_))))))))))))))
 (try simp only [aG] at h1)
 refine aQ (aj (ay (ah (aP rfl (dD rfl func16 (oD H3) ?_)))))
 rintro _ w4 ⟨u4, ks4, us4, sv4, rfl, H4⟩
 obtain ⟨bus, rfl⟩ : ∃ q, q = us4 := ⟨_, rfl⟩
 refine gB (bW (l := [_, _, _, _, _, _, _, _, _, _, _, _, _, _, _, _, _]) H4 zeroValue44 rfl) ?_
 rintro _ w5 ⟨b5, rfl, H5⟩
 refine aI (bC 0 (l' := [_, _, _, _, _, _, _, _, _, _, _, _, _, _, _, _, _]) (us := [_, _, _, _, _, _, _, _, _, _, _, _, _, _, _, _, _]) H5 sizeOf44 rfl rfl rfl (aC (by first | rfl | exact Rd.one ((H5.f2).aJ)) (aC (by first | rfl | assumption) (aC (by first | rfl | assumption) (aC (by first | rfl | assumption) (aC (by first | rfl | assumption) (aC (by first | rfl | assumption) (aC (by first | rfl | assumption) (aC (by first | rfl | assumption) (aC (by first | rfl | assumption) (aC (by first | rfl | assumption) (aC (by first | rfl | assumption) (aC (by first | rfl | exact Rd.one ((H5.f3).aJ)) (aC (by first | rfl | assumption) (aC (by first | rfl | exact Rd.one ((H5.f5).aJ)) (aC (by first | rfl | assumption) (aC (by first | rfl | assumption) (aC (by first | rfl | assumption) bg))))))))))))))))) rfl rfl) ?_
 rintro _ w6 H6
 have hEl : E0.c.E.length = (pR E0.c.E E0.c.at_).length := by have h1 := (H6.f3).vU; have h2 := (H6.f4).Kt; omega
 have Rx := H6.f7.right
 obtain ⟨KA, hKA, HKA⟩ := aA.grp (Rx.f5.f5.f5.f5.f5.g5)
 refine aB (aj (ay (ah (aP rfl (aP rfl (dD rfl func17 (EX HKA.f2 (fun W _ => iI.nil W _ none 0 (by decide)) (l := []) (by decide) hT) ?_))))))
 rintro _ w8 ⟨p8, rfl, H8⟩
 refine aP rfl (wQ rfl rfl (wQ rfl rfl (aW rfl (aW rfl (aB (aj (ay (ay (ah (aP rfl (aU (fO underlying46 rfl rfl) (jL rfl (fun h => by exfalso; (try simp only [aG] at h); simp at h) (fun h2 => ?_)))))))))))))
 (try simp only [aG] at h2)
 refine bn (aP rfl (bn (aU (dG rfl rfl) (jd rfl rfl (aB (aj (aO rfl (fun h => by exfalso; (try simp only [aG] at h); simp at h) (fun h3 => ?_))))))))
 (try simp only [aG] at h3)
 refine aQ (aj (ay (ah (aP rfl (aP rfl (dD rfl func18 (y9 H8 (fun W HW => q4 _ (HW.right.right)) hfl (Nat.zero_le _)) ?_))))))
 rintro _ w9 ⟨rfl, H9⟩
 obtain ⟨S1, hS1⟩ : ∃ S1, (SS.start E0.lines [] back E0.c.place E0.c.pt).lT first = S1 := ⟨_, rfl⟩
 rw [hS1] at H9
 have hw1 : S1.was.length ≤ S1.now.pat.length := hS1 ▸ La _ _ (Nat.zero_le _)
 refine aB (aj (ay (ah (aP rfl (dD rfl func19 (wL H9) ?_)))))
 rintro _ w10 ⟨u10, rfl, qK⟩
 refine aP rfl (dD rfl func20 (Ah qK.f2) ?_)
 rintro _ IV ⟨u11, rfl, vK⟩
 refine gB (bW (l := [_, _, _, _, _, _]) vK zeroValue52 rfl) ?_
 rintro _ w12 ⟨b12, rfl, vM⟩
 refine gB (bW (l := [_, _, _]) vM zeroValue41 rfl) ?_
 rintro _ OY ⟨b13, rfl, xq⟩
 refine aI (bC 0 (l' := [_, _, _, _, _, _]) (us := [_, _, _, _, _, _]) xq.f2 sizeOf52 rfl rfl rfl (aC (by first | rfl | exact Rd.one ((xq.f5).aJ)) (aC (by first | rfl | assumption) (aC (by first | rfl | assumption) (aC (by first | rfl | assumption) (aC (by first | rfl | assumption) (aC (by first | rfl | assumption) bg)))))) rfl rfl) ?_
 rintro _ OZ yR
 refine aI (bC 0 (l' := [_, _, _]) (us := [_, _, _]) yR.f2 sizeOf41 rfl rfl rfl (aC (by first | rfl | exact Rd.one ((yR.f3).aJ)) (aC (by first | rfl | assumption) (aC (by first | rfl | assumption) bg))) rfl rfl) ?_
 rintro _ QV xu
 obtain ⟨KB, hKB, HKB⟩ := aA.grp (xu.f3.f2.f5.f4.g4)
 refine aB (aj (ay (ah (aW rfl (aB (aj (ay (ay (ah (aP rfl (aU (gK (q5 _ (HKB.right.right.right.right)) underlying23 rfl) (aP rfl (aB (aj (aY ?_)))))))))))))))
 refine eP [(9, _), (10, _), (11, _), (13, _), (14, _), (46, _), (47, _)] (fun (⟨k, n, S⟩ : Nat × Nat × SS) => [(15, .int .i64 (n : Int)), (48, .int .i64 (k : Int))]) (fun (⟨k, n, S⟩ : Nat × Nat × SS) W => (k ≤ rs.length ∧ n ≤ k ∧ KZ S1 n S ∧ S.was.length ≤ S.now.pat.length) ∧ aA w W (dZ p8 S • dN e2 E0 • KA • KB • F)) (fun (⟨k, n, S⟩ : Nat × Nat × SS) => rs.length - k) ((0, 0, S1)) (Sub.cons rfl (Sub.cons rfl (Sub.cons rfl (Sub.cons rfl (Sub.cons rfl (Sub.cons rfl (Sub.cons rfl (Sub.nil _)))))))) (Sub.cons rfl (Sub.cons rfl (Sub.nil _))) ⟨⟨by omega, by omega, rfl, hw1⟩, HKB.f4.f4.f4⟩ ?_
 rintro ⟨k, n, S⟩ w16 ⟨⟨hk, hn9, hch, hwp⟩, HL⟩
 dsimp only [List.cons_append, List.nil_append]
 refine ay (ah (aU (dV rfl rfl) (aB (aj (ay (aO rfl (fun h4 => ?_) (fun h4 => ?_)))))))
 ·(try simp only [aG] at h4)
  refine aQ (aj (ay (aY (ay ?_))))
  have hkl : k < rs.length := by omega
  have hpl := (Qd HL.f2.right.f2.right.f2.right).2.1
  refine ah ?_
  obtain ⟨brv, orv, crv, erv⟩ := iI.kN (q5 _ (HL.right.right.right.right)) (by omega)
  cases erv
  refine aU (bV underlying23 sizeOf21 rfl rfl (by omega)) ?_
  refine aU (dB (bG underlying21 rfl) rfl (by first | exact iI.oV (q5 _ (HL.right.right.right.right)) (by omega) | exact iI.CQ (q5 _ (HL.right.right.right.right)) (by omega) | exact iI.BH (q5 _ (HL.right.right.right.right)) (by omega))) ?_
  refine aW rfl (aB (aj (ay (ah (aP rfl (aP rfl (gB (fV (k := .i32) (l := [_]) HL underlying23 sizeOf21 zeroValue21 rfl rfl rfl (by decide)) ?_)))))))
  rintro l17 UA zf
  refine dD rfl func18 (y9 zf.f2 (fun W HW => (HW).aJ) (by simp) (by omega)) ?_
  rintro _ TR ⟨rfl, Au⟩
  have Vg := Au.f2.right
  refine aU (dG rfl rfl) (aB (aj (aO rfl (fun h5 => ?_) (fun h5 => ?_))))
  ·(try simp only [aG] at h5)
   have abK : ¬ 1024 < S.now.pat.length + [rs.getD k 0].length := fun c => h5 ((Fg _ _).2 c)
   have hd := Np S [rs.getD k 0] abK (by simp)
   have Vh := La S [rs.getD k 0] hwp
   have TP : KZ S1 (n + 1) (S.lT [rs.getD k 0]) := ⟨hd.2, hd.1.symm ▸ hch⟩
   obtain ⟨SN, hSN⟩ : ∃ X, S.lT [rs.getD k 0] = X := ⟨_, rfl⟩
   rw [hSN] at Vg TP Vh
   obtain ⟨nN, hnN, hnM⟩ : ∃ m : Nat, (n : Int) + 1 = m ∧ m = n + 1 := ⟨n + 1, by omega, rfl⟩
   rw [← hnM] at TP
   refine ah (aP rfl (aU (dR rfl rfl (by omega)) ?_))
   rw [hnN]
   refine aW rfl (aB (aH (aj (ah (aU (dR rfl rfl (by omega)) (aP rfl (aB ?_)))))))
   refine bZ ((k + 1, nN, SN)) ?_ ?_ ?_ ?_
   ·exact (Sub.cons rfl (Sub.cons rfl (Sub.nil _)))
   ·exact (Sub.cons rfl (Sub.cons rfl (Sub.cons rfl (Sub.cons rfl (Sub.cons rfl (Sub.cons rfl (Sub.cons rfl (Sub.nil _))))))))
   ·(try dsimp only)
    first | done | exact ⟨⟨by omega, by omega, TP, Vh⟩, Vg.f4.f4.f4.f4⟩
   ·(try dsimp only); omega
  ·(try simp only [aG] at h5)
   have h93 : S.lU [rs.getD k 0] = 3 := by have h9 := h5; simpa using h9
   have he : S.lT [rs.getD k 0] = S := by unfold SS.lT; rw [if_pos ((Fg _ _).1 h93)]
   rw [he] at Vg
   obtain ⟨nN, rfl⟩ : ∃ m, m = n := ⟨n, rfl⟩
   obtain ⟨SN, rfl⟩ : ∃ X, X = S := ⟨S, rfl⟩
   have TP := hch
   have Vh := hwp
   refine aQ (aH (aj (ah (aU (dR rfl rfl (by omega)) (aP rfl (aB ?_))))))
   refine bZ ((k + 1, nN, SN)) ?_ ?_ ?_ ?_
   ·exact (Sub.cons rfl (Sub.cons rfl (Sub.nil _)))
   ·exact (Sub.cons rfl (Sub.cons rfl (Sub.cons rfl (Sub.cons rfl (Sub.cons rfl (Sub.cons rfl (Sub.cons rfl (Sub.nil _))))))))
   ·(try dsimp only)
    first | done | exact ⟨⟨by omega, by omega, TP, Vh⟩, Vg.f4.f4.f4.f4⟩
   ·(try dsimp only); omega
 ·(try simp only [aG] at h4)
  refine dK (aV (aV (bD (aj (ay (ay ?_))))))
  obtain rfl : k = rs.length := by omega
  refine ah (aP rfl (aP rfl (aB (aj (aY ?_)))))
  refine eP [(9, _), (10, _), (11, _), (13, _), (14, _), (60, _)] (fun (⟨i, T⟩ : Nat × SS) => [(61, .int .i64 (i : Int))]) (fun (⟨i, T⟩ : Nat × SS) W => (i ≤ n ∧ KZ S1 (n - i) T) ∧ aA w W (dZ p8 T • dN e2 E0 • KA • KB • F)) (fun (⟨i, T⟩ : Nat × SS) => n - i) ((0, S)) (Sub.cons rfl (Sub.cons rfl (Sub.cons rfl (Sub.cons rfl (Sub.cons rfl (Sub.cons rfl (Sub.nil _))))))) (Sub.cons rfl (Sub.nil _)) ⟨⟨by omega, hch⟩, HL.f4.f4.f4.f4⟩ ?_
  rintro ⟨i, T⟩ QW ⟨⟨hi, hct⟩, HJ⟩
  dsimp only [List.cons_append, List.nil_append]
  refine ay (ah (aU (dV rfl rfl) (aB (aj (ay (aO rfl (fun h6 => ?_) (fun h6 => ?_)))))))
  ·(try simp only [aG] at h6)
   refine aQ (aj (ay (aY (ay ?_))))
   have ZC : T.was.length ≠ 0 ∧ KZ S1 (n - (i + 1)) T.xK := by
    have e9 : n - i = (n - (i + 1)) + 1 := by omega
    rw [e9] at hct; exact hct
   have hcd := ZC.2
   have hdE : T.KN = 0 := by unfold SS.KN; rw [if_neg ZC.1]
   refine ah (aP rfl (dD rfl func21 (KR HJ) ?_))
   rintro _ TT ⟨rfl, oW⟩
   refine aU (dG rfl rfl) (aB (aj (aO rfl (fun h => by exfalso; (try simp only [aG] at h); exact h hdE) (fun h7 => ?_))))
   (try simp only [aG] at h7)
   refine aQ (aH (aj (ah (aU (dR rfl rfl (by omega)) (aP rfl (aB ?_))))))
   refine bZ ((i + 1, T.xK)) ?_ ?_ ?_ ?_
   ·exact (Sub.cons rfl (Sub.nil _))
   ·exact (Sub.cons rfl (Sub.cons rfl (Sub.cons rfl (Sub.cons rfl (Sub.cons rfl (Sub.cons rfl (Sub.nil _)))))))
   ·(try dsimp only)
    first | done | exact ⟨⟨by omega, hcd⟩, oW.f4.f4.f4.f4⟩
   ·(try dsimp only); omega
  ·(try simp only [aG] at h6)
   refine dK (aV (aV (bD (aj (ay ?_)))))
   obtain rfl : i = n := by omega
   rw [Nat.sub_self] at hct
   obtain rfl : T = S1 := hct
   refine ah (aP rfl (dD rfl func19 (wL HJ) ?_))
   rintro _ XC ⟨u22, rfl, IW⟩
   refine gB (bW (l := [_, _, _, _, _, _]) IW zeroValue52 rfl) ?_
   rintro _ Qh ⟨b23, rfl, vN⟩
   refine aI (bC 0 (l' := [_, _, _, _, _, _]) (us := [_, _, _, _, _, _]) vN sizeOf52 rfl rfl rfl (aC (by first | rfl | exact Rd.one ((vN.f2).aJ)) (aC (by first | rfl | assumption) (aC (by first | rfl | assumption) (aC (by first | rfl | assumption) (aC (by first | rfl | assumption) (aC (by first | rfl | assumption) bg)))))) rfl rfl) ?_
   rintro _ Yb Qi
   refine aB (aj (ay ?_))
   subst hKB
   have abL := Qi.f6.u4
   subst hKA
   have abM := abL.f9.u5
   have IU := abM.drew
   have Am := aA.kp (IU.f12.right.f12.right.f11.f11.f11.f11.f11.f11.f11.f11.f11.f11.f11)
   refine vJ [1, 3, 7, 9, 14, 16, 21, 23, 28, 30, 35, 42] Am rfl (dU 0 rfl Am 0 underlying52 rfl sizeOf23 rfl (gG 1 rfl Am (fun W hW => iF underlying23 rfl ((Kp.h hW).f6).get.2 rfl) (dU 2 rfl Am 0 underlying52 rfl sizeOf23 rfl (gG 3 rfl Am (fun W hW => iF underlying23 rfl ((Kp.h hW).f10).get.2 rfl) (jm 4 rfl (rX rfl func22 (yC _ _ _ _ ((IU.f7).aJ) ((IU.f11).aJ))) ?_)))))
   rintro _ Yd ⟨rfl, abN⟩
   have ZE := IU.wM abN
   have iT := aA.kp (ZE.f12.right.f12.right.f11.f11.f11.f11.f11.f11.f11.f11.f11.f11.f11)
   refine dS iT (by kernel_rfl) ?_
   refine fU 5 rfl iT rfl ?_
   refine cZ 6 rfl rfl rfl (by kernel_rfl) (by kernel_rfl) iT (fun _ => kC 1 underlying52 rfl rfl sizeOf4 (by decide) rfl rfl) (jg rfl) ?_
   refine iE 7 rfl rfl rfl (by kernel_rfl) (by kernel_rfl) iT (by decide) (fun W hW => dB (bG underlying4 rfl) rfl (dH ((Kp.h hW).f6).get.2 rfl)) (jg rfl) ?_
   refine cZ 8 rfl rfl rfl (by kernel_rfl) (by kernel_rfl) iT (fun _ => kC 1 underlying52 rfl rfl sizeOf4 (by decide) rfl rfl) (jg rfl) ?_
   refine iE 9 rfl rfl rfl (by kernel_rfl) (by kernel_rfl) iT (by decide) (fun W hW => dB (bG underlying4 rfl) rfl (dH ((Kp.h hW).f10).get.2 rfl)) (jg rfl) ?_
   refine cZ 10 rfl rfl rfl (by kernel_rfl) (by kernel_rfl) iT (fun _ => DF underlying4 rfl rfl) (jg rfl) ?_
   refine gZ 11 rfl iT (fun _ => nS rfl rfl) ?_
   refine uD 12 rfl rfl (by kernel_rfl) (by kernel_rfl) iT (jg rfl) (fun h8 => ?_) (fun h => by exfalso; (try simp only [aG] at h); simp at h)
   (try simp only [aG] at h8)
   refine cZ 13 rfl rfl rfl (by kernel_rfl) (by kernel_rfl) iT (fun _ => kC 2 underlying52 rfl rfl sizeOf4 (by decide) rfl rfl) (jg rfl) ?_
   refine iE 14 rfl rfl rfl (by kernel_rfl) (by kernel_rfl) iT (by decide) (fun W hW => dB (bG underlying4 rfl) rfl (dH ((Kp.h hW).f6).get.2 rfl)) (jg rfl) ?_
   refine cZ 15 rfl rfl rfl (by kernel_rfl) (by kernel_rfl) iT (fun _ => kC 2 underlying52 rfl rfl sizeOf4 (by decide) rfl rfl) (jg rfl) ?_
   refine iE 16 rfl rfl rfl (by kernel_rfl) (by kernel_rfl) iT (by decide) (fun W hW => dB (bG underlying4 rfl) rfl (dH ((Kp.h hW).f10).get.2 rfl)) (jg rfl) ?_
   refine cZ 17 rfl rfl rfl (by kernel_rfl) (by kernel_rfl) iT (fun _ => DF underlying4 rfl rfl) (jg rfl) ?_
   refine gZ 18 rfl iT (fun _ => nS rfl rfl) ?_
   refine uD 19 rfl rfl (by kernel_rfl) (by kernel_rfl) iT (jg rfl) (fun h9 => ?_) (fun h => by exfalso; (try simp only [aG] at h); simp at h)
   (try simp only [aG] at h9)
   refine cZ 20 rfl rfl rfl (by kernel_rfl) (by kernel_rfl) iT (fun _ => kC 3 underlying52 rfl rfl sizeOf3 (by decide) rfl rfl) (jg rfl) ?_
   refine iE 21 rfl rfl rfl (by kernel_rfl) (by kernel_rfl) iT (by decide) (fun W hW => dB (bG underlying3 rfl) rfl (dH ((Kp.h hW).f6).get.2 rfl)) (jg rfl) ?_
   refine cZ 22 rfl rfl rfl (by kernel_rfl) (by kernel_rfl) iT (fun _ => kC 3 underlying52 rfl rfl sizeOf3 (by decide) rfl rfl) (jg rfl) ?_
   refine iE 23 rfl rfl rfl (by kernel_rfl) (by kernel_rfl) iT (by decide) (fun W hW => dB (bG underlying3 rfl) rfl (dH ((Kp.h hW).f10).get.2 rfl)) (jg rfl) ?_
   refine cZ 24 rfl rfl rfl (by kernel_rfl) (by kernel_rfl) iT (fun _ => iQ rfl rfl) (jg rfl) ?_
   refine gZ 25 rfl iT (fun _ => nS rfl rfl) ?_
   refine uD 26 rfl rfl (by kernel_rfl) (by kernel_rfl) iT (jg rfl) (fun h10 => ?_) (fun h => by exfalso; (try simp only [aG] at h); simp at h)
   (try simp only [aG] at h10)
   refine cZ 27 rfl rfl rfl (by kernel_rfl) (by kernel_rfl) iT (fun _ => kC 4 underlying52 rfl rfl sizeOf3 (by decide) rfl rfl) (jg rfl) ?_
   refine iE 28 rfl rfl rfl (by kernel_rfl) (by kernel_rfl) iT (by decide) (fun W hW => dB (bG underlying3 rfl) rfl (dH ((Kp.h hW).f6).get.2 rfl)) (jg rfl) ?_
   refine cZ 29 rfl rfl rfl (by kernel_rfl) (by kernel_rfl) iT (fun _ => kC 4 underlying52 rfl rfl sizeOf3 (by decide) rfl rfl) (jg rfl) ?_
   refine iE 30 rfl rfl rfl (by kernel_rfl) (by kernel_rfl) iT (by decide) (fun W hW => dB (bG underlying3 rfl) rfl (dH ((Kp.h hW).f10).get.2 rfl)) (jg rfl) ?_
   refine cZ 31 rfl rfl rfl (by kernel_rfl) (by kernel_rfl) iT (fun _ => iQ rfl rfl) (jg rfl) ?_
   refine gZ 32 rfl iT (fun _ => nS rfl rfl) ?_
   refine uD 33 rfl rfl (by kernel_rfl) (by kernel_rfl) iT (jg rfl) (fun h11 => ?_) (fun h => by exfalso; (try simp only [aG] at h); simp at h)
   (try simp only [aG] at h11)
   refine cZ 34 rfl rfl rfl (by kernel_rfl) (by kernel_rfl) iT (fun _ => kC 0 underlying41 rfl rfl sizeOf23 (by decide) rfl rfl) (jg rfl) ?_
   refine iE 35 rfl rfl rfl (by kernel_rfl) (by kernel_rfl) iT (by decide) (fun W hW => dB (bG underlying23 rfl) rfl (dH ((Kp.h hW).f8).get.2 rfl)) (jg rfl) ?_
   refine cZ 36 rfl rfl rfl (by kernel_rfl) (by kernel_rfl) iT (fun _ => yL rfl) (jg rfl) ?_
   refine vT 37 rfl rfl rfl (by kernel_rfl) (lN (mG rfl func20 rfl rfl) (Ah ZE.f12)) (jg rfl) ?_
   rintro _ Ye ⟨u28, rfl, LU⟩
   have Ky := aA.kp (LU.f14.right.f13.f13.f13.f13.f13.f13.f13.f13.f13.f13.f13.f13.f13)
   refine bU Ky (fun W hW => (Kp.h hW).right.right.f11.f11.f11.f11.f11.f11.f11.f11.f11.f11.f11) ?_
   refine cZ 38 rfl rfl rfl (by kernel_rfl) (by kernel_rfl) Ky (fun _ => qA 0 underlying41 rfl rfl (bG underlying23 rfl) rfl rfl) (jg rfl) ?_
   refine vT 39 rfl rfl rfl (by kernel_rfl) (lN (mG rfl func22 rfl rfl) (yC _ _ _ _ ((LU.f11).aJ) ((LU).aJ))) (jg rfl) ?_
   rintro _ ZI ⟨rfl, abO⟩
   have ZF := LU.wM abO
   have ET := aA.kp (ZF.f14.right.f13.f13.f13.f13.f13.f13.f13.f13.f13.f13.f13.f13.f13)
   refine dS ET (by kernel_rfl) ?_
   refine gZ 40 rfl ET (fun _ => nS rfl rfl) (fU 41 rfl ET rfl ?_)
   refine iE 42 rfl rfl rfl (by kernel_rfl) (by kernel_rfl) ET (by decide) (fun W hW => bQ underlying44 rfl sizeOf44 rfl rfl ((Kp.h hW).f3).get.2) (jg rfl) ?_
   refine cZ 43 rfl rfl rfl (by kernel_rfl) (by kernel_rfl) ET (fun _ => yL rfl) (jg rfl) ?_
   refine vT 44 rfl rfl rfl (by kernel_rfl) (lN (mG rfl func16 rfl rfl) (oD ZF.f14)) (jg rfl) ?_
   rintro _ Yf ⟨u30, ac6, abP, ac7, rfl, Hf⟩
   obtain ⟨ac8, rfl⟩ : ∃ q, q = abP := ⟨_, rfl⟩
   have Td := aA.kp (Hf.f18.f18.f18.f18.f18.f18.f18.f18.f18.f18.f18.f18.f18.f18.f18.f18.f18.f18)
   refine bU Td (fun W hW => (Kp.h hW).right.right.right.right.right.f13.f13.f13.f13.f13.f13.f13.f13.f13.f13.f13.f13.f13) ?_
   have abQ := Hf.f4.f4.f4.f4.f12.f12.f12.f12.f12
   refine vT 45 rfl rfl rfl (by kernel_rfl) (lN (mG rfl func23 rfl rfl) (Fe (x := ZA E0) (l := E0.c.L) (ls := pR E0.c.E E0.c.at_) (S := E0.saved) abQ (fun W HW => HW.f2.aJ) (fun W HW => HW.f6.aJ) (fun W HW => hEl ▸ HW.f3.aJ) (fun W HW => hEl ▸ HW.f7.aJ) (fun k hk W HW => HW.f4.Oh hk) (fun k hk W HW => HW.f8.Oh hk) (fun W HW => HW.f5.aJ) (fun W HW => HW.f9.aJ))) (jg rfl) ?_
   rintro _ w32 ⟨rfl, CW⟩
   have BR := aA.kp (CW.f18.f18.f18.f18.f18.f18.f18.f18.f18.f18.f18.f18.f18.f18.f18.f18.f18.f18)
   refine dS BR (by kernel_rfl) ?_
   refine gZ 46 rfl BR (fun _ => nS rfl rfl) (gZ 47 rfl BR (fun _ => eX rfl) (mD (aj (aN (aT (.inl rfl) results5 rfl ?_)))))
   exact ⟨rfl, CW.base⟩
end Go.Proofs.YtddekefihgejoaaGreatDoor
end
section
set_option maxRecDepth 100000
namespace Go.Proofs.YtddekefihgejoaaGreatDoor
open Go.ChangeShapes Go.WideShapes Go.ChangeAt Go.RowKit
theorem Qe {H : Type} {enc : TypeId × Value → H} {W : World} {B : Nat} {cs : List Value} (h : vV B enc Tryz.prog W 26 cs) : ∃ v0 n0 x0 v1 x1 x2 v3 x3 x4, cs = [v0, v1, .int .i64 x2, v3, .int .i64 x4] ∧ (Rd W 2 v0 n0 x0 ∧ n0 * Tryz.prog.bytesOf 84 ≤ B ∧ ∀ k, k < n0 → vV B enc Tryz.prog W 84 ((x0.drop (k * 2)).take 2)) ∧ (iI W .i32 v1 x1 ∧ x1.length * 4 ≤ B ∧ ∀ n ∈ x1, (Lit.int .i32 n).wf = true) ∧ (Lit.int .i64 x2).wf = true ∧ (iI W .i32 v3 x3 ∧ x3.length * 4 ≤ B ∧ ∀ n ∈ x3, (Lit.int .i32 n).wf = true) ∧ (Lit.int .i64 x4).wf = true := by
  obtain ⟨hl, hf⟩ := h.struct Tryz.underlying26
  rw [show Tryz.prog.cellsOf 26 = 5 from by kernel_rfl] at hl
  match cs, hl with
  | [c0, c1, c2, c3, c4], _ =>
    have h0 : vV B enc Tryz.prog W 24 (([c0, c1, c2, c3, c4].drop 0).take (Tryz.prog.cellsOf 24)) := hf 0 _ rfl
    rw [show Tryz.prog.cellsOf 24 = 1 from by kernel_rfl] at h0
    obtain ⟨v0, n0, x0, e0, g0, b0, s0⟩ := h0.slice Tryz.underlying24 (by rw [show Tryz.prog.cellsOf 84 = 2 from by kernel_rfl]; decide)
    rw [show Tryz.prog.cellsOf 84 = 2 from by kernel_rfl] at g0 s0
    have h1 : vV B enc Tryz.prog W 23 (([c0, c1, c2, c3, c4].drop 1).take (Tryz.prog.cellsOf 23)) := hf 1 _ rfl
    rw [show Tryz.prog.cellsOf 23 = 1 from by kernel_rfl] at h1
    obtain ⟨v1, x1, e1, g1, b1, w1⟩ := h1.ints Tryz.underlying23 Tryz.underlying21 (by kernel_rfl)
    rw [show Tryz.prog.bytesOf 21 = 4 from by kernel_rfl] at b1
    have h2 : vV B enc Tryz.prog W 3 (([c0, c1, c2, c3, c4].drop 2).take (Tryz.prog.cellsOf 3)) := hf 2 _ rfl
    rw [show Tryz.prog.cellsOf 3 = 1 from by kernel_rfl] at h2
    obtain ⟨x2, e2, w2⟩ := h2.int Tryz.underlying3
    have h3 : vV B enc Tryz.prog W 23 (([c0, c1, c2, c3, c4].drop 3).take (Tryz.prog.cellsOf 23)) := hf 3 _ rfl
    rw [show Tryz.prog.cellsOf 23 = 1 from by kernel_rfl] at h3
    obtain ⟨v3, x3, e3, g3, b3, w3⟩ := h3.ints Tryz.underlying23 Tryz.underlying21 (by kernel_rfl)
    rw [show Tryz.prog.bytesOf 21 = 4 from by kernel_rfl] at b3
    have h4 : vV B enc Tryz.prog W 3 (([c0, c1, c2, c3, c4].drop 4).take (Tryz.prog.cellsOf 3)) := hf 4 _ rfl
    rw [show Tryz.prog.cellsOf 3 = 1 from by kernel_rfl] at h4
    obtain ⟨x4, e4, w4⟩ := h4.int Tryz.underlying3
    simp only [List.drop, List.take, List.cons.injEq, and_true] at e0 e1 e2 e3 e4
    exact ⟨v0, n0, x0, v1, x1, x2, v3, x3, x4, by simp_all, ⟨g0, b0, s0⟩, ⟨g1, b1, w1⟩, w2, ⟨g3, b3, w3⟩, w4⟩
set_option maxRecDepth 100000 in
theorem yx (os : Os) (started : os.Started) (H : Type) (enc : TypeId × Value → H) :
    ReturnsInHanded {} Tryz.checked os 5 .any (fun w args => (Rows.isearchDropsSpec.pre enc Tryz.prog Tryz.f5 Rows.isearchDropsRow.domain false w args ∧ laidMetH Tryz.prog DR w) ∧ sizedMet enc Tryz.prog Tryz.f5 (OpenSpec.ofChange Rows.isearchDropsSpec) false w args) (Rows.isearchDropsSpec.post enc Tryz.prog Tryz.f5 false true false false) := by
  refine Fp (C := Tryz.checked) (tb := 4) _ own laid started (by kernel_rfl) Tryz.func5 (congrArg Array.toList Tryz.params5) rfl Tryz.underlying4 rfl (by kernel_rfl) (fun ds hd => ?_)
    (ChangeSpec.witness_shaped (enc := enc) (C := Tryz.checked) (os := os) (X := fun w _ => laidMetH Tryz.prog DR w) false (World.laidAll Tryz.prog os DR) #[.agg #[.slice none 0 0, .slice none 0 0, .int .i64 0, .slice none 0 0, .int .i64 0], .bool false, .slice none 0 0, .slice none 0 0] 8 (World.laidAll_os _ _ _) (World.shaped_of_ZipB (by kernel_rfl) (by kernel_rfl)) (by kernel_rfl) (by kernel_rfl) (by kernel_rfl) (Qr os _)) ?_
  · obtain ⟨a0, a1, a2, a3, rfl⟩ := QD hd
    rfl
  intro W args hL hin
  have hT := Uk hL
  obtain ⟨v1, v2, v3, v4, rfl, ⟨⟨_, o1⟩, i1⟩, ⟨⟨_, o2⟩, i2⟩, ⟨⟨_, o3⟩, i3⟩, ⟨⟨_, o4⟩, i4⟩⟩ := hin.four
  obtain ⟨cs, rfl, -⟩ := okWide_struct Tryz.underlying26 o1
  obtain ⟨bk, rfl⟩ := okWide_bool Tryz.underlying4 o2
  obtain ⟨a3, n3, c3, rfl⟩ := okWide_slice Tryz.underlying23 o3
  obtain ⟨a4, n4, c4, rfl⟩ := okWide_slice Tryz.underlying23 o4
  obtain ⟨hv, n0, x0, lv, ln, place, tv, ty, pt, e, ⟨g0, b0, s0⟩, ⟨g1, b1, w1⟩, -, ⟨g3, b3, w3⟩, -⟩ := Qe i1
  obtain rfl : cs = #[hv, lv, .int .i64 place, tv, .int .i64 pt] := Array.ext' e
  obtain ⟨l, l1, l2⟩ := LP g0.len s0
  subst l1 l2
  rw [show Tryz.prog.bytesOf 84 = 24 from by kernel_rfl] at b0
  obtain ⟨v3, y3, e3, q3, p3, -⟩ := i3.ints Tryz.underlying23 Tryz.underlying21 (by kernel_rfl)
  obtain rfl := List.singleton_inj.1 e3
  obtain ⟨v4, y4, e4, q4, p4, -⟩ := i4.ints Tryz.underlying23 Tryz.underlying21 (by kernel_rfl)
  obtain rfl := List.singleton_inj.1 e4
  rw [show Tryz.prog.bytesOf 21 = 4 from by kernel_rfl] at p3 p4
  unfold reachBytes at b0 p3 p4
  by_cases hm : qX l = 0
  · by_cases hl : ln.length ≤ 1024
    · exact FQ (DX hL) g0 g1 g3 q3 q4 (by omega) hm hl (aah w1) (by omega) (by omega)
    · exact GL (DX hL) g0 g1 (by omega) (.inr (by omega))
  · exact GL (DX hL) g0 g1 (by omega) (.inl hm)
theorem yA : Rows.IsearchDropsSaid :=
  OpenClaim.holds_of_wide 5 Tryz.f5 rfl rfl rfl rfl rfl rfl rfl ⟨rfl, rfl, rfl, rfl, rfl⟩ rfl rfl rfl rfl rfl (by kernel_rfl) Tryz.func5 (by kernel_rfl)
    (of_decide_eq_true (by kernel_rfl)) (by unfold Func.isWrapper; first | (rw [if_pos (by decide +kernel)]; kernel_rfl) | (rw [if_neg (by decide +kernel)]; exact ⟨rfl, rfl⟩))
    (fun os started H enc _ => yx os started H enc)
theorem isearchDrops_card : Rows.IsearchDropsCardSaid :=
  Claim7.holds_tied_plain_at .later [] [.data, .pinned] true (true, "cdeeef36a54030791fe74ba94e7a0c048174d326e7653f97b5eda55c2ff4757f") false
    yA (fun _ h => by cases h) (by kernel_rfl) (fun _ h => by cases h) isearchDrops_row_tie rfl ⟨rfl, rfl⟩ (by kernel_rfl) rfl
    (fun f fn hf hfn => by
      obtain rfl : f = 5 := Option.some.inj ((show Tryz.prog.funcNamed "lanyard/lanyardlaw20.IsearchDrops" = some 5 by kernel_rfl).symm.trans hf) |>.symm
      obtain rfl : fn = Tryz.f5 := (Option.some.inj (Tryz.func5.symm.trans hfn)).symm
      exact ⟨by kernel_rfl, fun j t ht => by
        rw [Tryz.params5] at ht
        have hm : t ∈ [26, 4, 23, 23] := by simpa using Array.mem_of_getElem? ht
        have hall : ([26, 4, 23, 23].all fun u => !Tryz.prog.wantsStandIn u) = true := by kernel_rfl
        exact (show Tryz.prog.wantsStandIn t = false by simpa using List.all_eq_true.1 hall t hm)⟩)
    (by kernel_rfl)
end Go.Proofs.YtddekefihgejoaaGreatDoor
end
