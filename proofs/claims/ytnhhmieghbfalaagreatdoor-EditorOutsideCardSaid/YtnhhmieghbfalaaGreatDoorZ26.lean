import Derived.Test.YtnhhmieghbfalaaGreatDoorZ4
import Derived.Test.YtnhhmieghbfalaaGreatDoorZ25
import Derived.Test.YtnhhmieghbfalaaGreatDoorZ18
import Derived.Test.YtnhhmieghbfalaaGreatDoorZ24
import Derived.Test.YtnhhmieghbfalaaGreatDoorZ22
import Derived.Laws.StructEq
import Derived.Test.YtnhhmieghbfalaaGreatDoorZ11
import Derived.Test.YtnhhmieghbfalaaGreatDoorZ2
set_option linter.unusedSimpArgs false
set_option linter.unusedVariables false
/- Texts of mine, joined, their names in short: EKillM EUndoM UBackM EdR32 ERefM ESame ESame2 ELive FieldVal LawEUndoes ERefM2. -/
section
namespace Go.Proofs.YtnhhmieghbfalaaGreatDoor
open Go.RowKit
section
variable {s : aX}
theorem agE (s : aX) (x : jH) : (s.nI x).c.L = s.c.L ∧ (s.nI x).c.pt = s.c.pt ∧ (s.nI x).c.mark = s.c.mark ∧ (s.nI x).c.E = s.c.E ∧ (s.nI x).c.at_ = s.c.at_ ∧ (s.nI x).inn = s.inn ∧ (s.nI x).cls = s.cls ∧ (s.nI x).was = s.was := by
  unfold aX.nI
  split
  · simp
  · split <;> simp [aX.lY]
theorem ab4 (h : s.inn = true) (i j : Int) (l : List Int) : (s.gy i j l).c.L = nP s.c.L i j l ∧ (s.gy i j l).c.pt = wo s.c.L s.c.pt i j l ∧ (s.gy i j l).c.mark = wu s.c.L s.c.mark i j l ∧ (s.gy i j l).c.E = s.c.E ∧ (s.gy i j l).c.at_ = s.c.at_ ∧ (s.gy i j l).inn = true ∧ (s.gy i j l).cls = s.cls ∧ (s.gy i j l).was = s.was := by
  unfold aX.gy
  rw [if_pos h]
  obtain ⟨h1, h2, h3, h4, h5, h6, h7, h8⟩ := agE (s.jw (nP s.c.L i j l) (wo s.c.L s.c.pt i j l) (wu s.c.L s.c.mark i j l)) (yw s.c.L i j l, nU s.c.L i j l, nV s.c.L i j l)
  exact ⟨h1, h2, h3, h4, h5, h6.trans h, h7, h8⟩
theorem aiE (h : s.inn = true) {i j : Int} {back : Bool} (hi : 0 ≤ i ∧ i ≤ j ∧ j ≤ s.c.L.length) (hL : s.c.L.length ≤ 1024) (hk : (s.xQ i j back).1 = 0) (hp : i ≤ s.c.pt ∧ s.c.pt ≤ j) :
    (s.zZ i j back).c.L = s.c.L.take i.toNat ++ s.c.L.drop j.toNat ∧ (s.zZ i j back).c.pt = i ∧ (s.zZ i j back).c.E = (s.xQ i j back).2.1 ∧ (s.zZ i j back).c.at_ = (s.xQ i j back).2.2 ∧ (s.zZ i j back).inn = true ∧ (s.zZ i j back).cls = 1 := by
  have hc : s.oZ i j back = 0 := by
    unfold aX.oZ
    rw [if_pos h, if_neg (by unfold aX.qN; omega), hk]
  have hE : lG s.c.L i j [] = 0 := by unfold lG; rw [if_neg (by omega), if_neg (by simp; omega)]
  unfold aX.zZ
  rw [if_pos hc]
  have e : s.uS i j back = { s.pU (s.xQ i j back).2.1 (s.xQ i j back).2.2 with lS := true, cls := 1 } := by unfold aX.uS; rw [if_pos hc]
  have ei : (s.uS i j back).inn = true := by rw [e]; exact h
  obtain ⟨h1, h2, h3, h4, h5, h6, h7, h8⟩ := ab4 ei i j []
  refine ⟨h1.trans ?_, h2.trans ?_, h4.trans (by rw [e]; rfl), h5.trans (by rw [e]; rfl), h6, h7.trans (by rw [e])⟩
  · rw [show (s.uS i j back).c.L = s.c.L from by rw [e]; rfl]
    unfold nP
    rw [if_pos hE]; simp
  · rw [show (s.uS i j back).c.L = s.c.L from by rw [e]; rfl, show (s.uS i j back).c.pt = s.c.pt from by rw [e]; rfl]
    unfold wo fK
    rw [if_pos hE]
    simp only [List.length_nil]
    split <;> (try split) <;> omega
end
structure TP (s : aX) (A : List Int) (a b : Int) : Prop where
  inn : s.inn = false
  ok : 0 ≤ a ∧ a ≤ b ∧ b ≤ A.length
  L : s.c.L = A.take a.toNat ++ A.drop b.toNat
  pt : s.c.pt = a
  ring : (s.c.E = [] ∧ a = b) ∨ (s.c.E = [(A.drop a.toNat).take (b.toNat - a.toNat)] ∧ s.c.at_ = 0 ∧ s.c.last = 1)
section
variable {s : aX} {A : List Int} {a b k : Int}
theorem TP.len (h : TP s A a b) : (s.c.L.length : Int) = A.length - (b - a) := by
  have := h.ok
  rw [h.L]; simp; omega
theorem wU (s : aX) : s.dA.c = s.c := by unfold aX.dA; split <;> rfl
theorem abb (h : TP s A a b) (hA : A.length ≤ 1024) {i j : Int} {back : Bool} {l : List Int} (hcut : s.dA.cut i j = l) (hl : l.length + (b - a) ≤ A.length) :
    (s.dA.xQ i j back).1 = 0 ∧ ((s.dA.xQ i j back).2.1 = [] ∧ l = [] ∧ a = b ∨ (s.dA.xQ i j back).2.1 = [if back then l ++ (A.drop a.toNat).take (b.toNat - a.toNat) else (A.drop a.toNat).take (b.toNat - a.toNat) ++ l] ∧ (s.dA.xQ i j back).2.2 = 0) := by
  have ho := h.ok
  have hb : s.dA.lS = false := by unfold aX.dA; rw [if_neg (by rw [h.inn]; decide)]
  unfold aX.xQ
  rw [hcut, wU]
  rcases h.ring with ⟨h1, h2⟩ | ⟨h1, h2, h3⟩
  · rw [h1]
    have hx : (A.drop a.toNat).take (b.toNat - a.toNat) = [] := by rw [h2]; simp
    have hw : s.dA.way back = 0 ∨ s.dA.way back = 1 ∨ s.dA.way back = 2 := by unfold aX.way; split <;> (try split) <;> simp
    unfold oN
    rw [if_neg (by omega), if_neg (by omega), if_neg (by simp)]
    split
    · rename_i h4
      exact ⟨rfl, .inl ⟨rfl, List.length_eq_zero_iff.1 h4.2, h2⟩⟩
    · rw [hx]
      exact ⟨rfl, .inr ⟨by cases back <;> simp, rfl⟩⟩
  · rw [h1, h2]
    have hw : s.dA.way back = if back then 2 else 1 := by unfold aX.way; rw [if_pos (by rw [wU]; exact .inl h3)]
    have hlen : ((A.drop a.toNat).take (b.toNat - a.toNat)).length = b.toNat - a.toNat := by simp; omega
    rw [hw]
    unfold oN
    rw [if_neg (by cases back <;> simp), if_neg (by omega), if_pos (by cases back <;> simp), if_neg (by simp only [List.getD_cons_zero]; omega)]
    exact ⟨rfl, .inr ⟨by cases back <;> simp, rfl⟩⟩
theorem TP.step (h : TP s A a b) (hA : A.length ≤ 1024) {i j a' b' : Int} {back : Bool} {l : List Int} (hij : 0 ≤ i ∧ i ≤ j ∧ j ≤ s.c.L.length) (hp : i ≤ a ∧ a ≤ j) (hcut : s.dA.cut i j = l) (hl : l.length + (b - a) ≤ A.length)
    (ho : 0 ≤ a' ∧ a' ≤ b' ∧ b' ≤ A.length) (hi : i = a') (hL : s.c.L.take i.toNat ++ s.c.L.drop j.toNat = A.take a'.toNat ++ A.drop b'.toNat) (he : l = [] → a = b → a' = b')
    (hx : (if back then l ++ (A.drop a.toNat).take (b.toNat - a.toNat) else (A.drop a.toNat).take (b.toNat - a.toNat) ++ l) = (A.drop a'.toNat).take (b'.toNat - a'.toNat)) :
    TP ((s.dA.zZ i j back).nZ 0) A a' b' := by
  obtain ⟨h1, h2⟩ := abb h hA (back := back) hcut hl
  have hlen := h.len
  have hok := h.ok
  obtain ⟨k1, k2, k3, k4, k5, k6⟩ := aiE (s := s.dA) (IU s) (i := i) (j := j) (back := back) (by rw [wU]; exact hij) (by rw [wU]; omega) h1 (by rw [wU, h.pt]; exact hp)
  rw [wU] at k1
  refine ⟨JZ _ k5, ho, (MB _ k5).trans (k1.trans hL), (QG _ k5).trans (k2.trans hi), ?_⟩
  rw [aiD _ k5, agB _ k5, ac4 _ k5, k3, k4, k6]
  rcases h2 with ⟨q1, q2, q3⟩ | ⟨q1, q2⟩
  · exact .inl ⟨q1, he q2 q3⟩
  · exact .inr ⟨by rw [q1, hx], q2, rfl⟩
theorem TP.back (h : TP s A a b) (hA : A.length ≤ 1024) (hk : 0 ≤ k ∧ k ≤ a) : TP ((s.dA.zZ (s.dA.c.pt - k) s.dA.c.pt true).nZ 0) A (a - k) b := by
  have hlen := h.len
  have hok := h.ok
  rw [wU, h.pt]
  have e1 : s.dA.cut (a - k) a = (A.drop (a - k).toNat).take k.toNat := by
    unfold aX.cut
    rw [wU, h.L, List.drop_append_of_le_length (by simp; omega), List.take_append_of_le_length (by simp; omega), List.drop_take]
    rw [List.take_take]; congr 1; omega
  refine h.step hA (l := (A.drop (a - k).toNat).take k.toNat) (by omega) (by omega) e1 (by simp; omega) (by omega) rfl ?_ ?_ ?_
  · rw [h.L, List.take_append_of_le_length (by simp; omega), List.take_take, List.drop_append, List.drop_of_length_le (by simp; omega), List.nil_append]
    rw [show min (a - k).toNat a.toNat = (a - k).toNat from by omega, show a.toNat - (A.take a.toNat).length = 0 from by simp; omega, List.drop_zero]
  · intro h1 h2
    have h3 := congrArg List.length h1
    simp at h3; omega
  · simp only [if_true]
    rw [show (A.drop a.toNat).take (b.toNat - a.toNat) = ((A.drop (a - k).toNat).drop k.toNat).take (b.toNat - a.toNat) from by rw [List.drop_drop]; congr 2; omega, show b.toNat - (a - k).toNat = k.toNat + (b.toNat - a.toNat) from by omega, List.take_add]
theorem TP.G9 (h : TP s A a b) (hA : A.length ≤ 1024) : (a = b → ((s.dA.ql).nZ s.dA.yN).c.L.length = A.length) ∧
    (a ≠ b → s.dA.yN = 0 ∧ ((s.dA.ql).nZ s.dA.yN).c.L = A ∧ ((s.dA.ql).nZ s.dA.yN).c.mark = a ∧ ((s.dA.ql).nZ s.dA.yN).c.pt = b) := by
  have hlen := h.len
  have hok := h.ok
  have hi := IU s
  rcases h.ring with ⟨h1, h2⟩ | ⟨h1, h2, h3⟩
  · have hy : s.dA.yN = 6 := by unfold aX.yN; rw [if_pos hi, wU, h1]; rfl
    refine ⟨fun _ => ?_, fun c => absurd h2 c⟩
    have e1 : s.dA.ql = s.dA := by unfold aX.ql; rw [if_neg (by rw [hy]; decide)]
    rw [e1, hy]
    have e2 : (s.dA.nZ 6).c.L = s.c.L := by
      unfold aX.nZ; rw [if_pos hi, if_neg (by decide)]
      unfold aX.dA aX.DV; rw [if_neg (by rw [h.inn]; decide)]
    rw [e2]; omega
  · have htop : s.dA.top = (A.drop a.toNat).take (b.toNat - a.toNat) := by unfold aX.top; rw [wU, h1, h2]; rfl
    have htl : s.dA.top.length = b.toNat - a.toNat := by rw [htop]; simp; omega
    have hE : lG s.c.L a a s.dA.top = 0 := by unfold lG; rw [if_neg (by omega), if_neg (by omega)]
    have hy : s.dA.yN = 0 := by
      unfold aX.yN aX.KG aX.lU
      rw [if_pos hi, if_neg (by rw [wU, h1]; simp), if_pos hi, wU, h.pt, hE]
    have hta : (A.take a.toNat).length = a.toNat := by simp; omega
    have e0 : s.c.L.drop a.toNat = A.drop b.toNat := by rw [h.L]; exact List.drop_left' hta
    have e9 : s.c.L.take a.toNat = A.take a.toNat := by rw [h.L]; exact List.take_left' hta
    obtain ⟨r1, r2, r3, r4, r5, r6, r7, r8⟩ := ab4 hi s.dA.c.pt s.dA.c.pt s.dA.top
    rw [wU, h.pt] at r1 r2
    have hI : s.dA.BD s.dA.top = s.dA.gy s.dA.c.pt s.dA.c.pt s.dA.top := rfl
    rw [wU, h.pt] at hI
    have hL2 : nP s.c.L a a s.dA.top = A := by
      unfold nP; rw [if_pos hE, e0, e9, htop]
      rw [show A.drop b.toNat = (A.drop a.toNat).drop (b.toNat - a.toNat) from by rw [List.drop_drop]; congr 1; omega, List.append_assoc, List.take_append_drop, List.take_append_drop]
    have hP2 : wo s.c.L a a a s.dA.top = b := by
      unfold wo fK; rw [if_pos hE]
      split <;> (try split) <;> omega
    have eY : s.dA.ql = (let t := s.dA.BD s.dA.top; { t with jc := true, cls := 2, c := { t.c with mark := ZL t.c.L t.c.mark s.dA.c.pt, fr := s.dA.c.pt, to := s.dA.c.pt + s.dA.top.length } }) := by
      unfold aX.ql; rw [if_pos hy]
    have gL : s.dA.ql.c.L = A := by rw [eY]; show (s.dA.BD s.dA.top).c.L = A; rw [hI, wU, h.pt] at *; exact r1.trans hL2
    have gP : s.dA.ql.c.pt = b := by rw [eY]; show (s.dA.BD s.dA.top).c.pt = b; rw [hI]; exact r2.trans hP2
    have gI : s.dA.ql.inn = true := by rw [eY]; show (s.dA.BD s.dA.top).inn = true; exact r6
    have gM : s.dA.ql.c.mark = a := by
      have gL' : (s.dA.BD s.dA.top).c.L = A := by have := gL; rw [eY] at this; exact this
      rw [eY]
      show ZL (s.dA.BD s.dA.top).c.L (s.dA.BD s.dA.top).c.mark s.dA.c.pt = a
      rw [gL', wU, h.pt]
      unfold ZL; rw [if_neg (by omega)]
    rw [hy]
    refine ⟨fun _ => by rw [MB _ gI, gL], fun _ => ⟨rfl, (MB _ gI).trans gL, (ac3 _ gI).trans gM, (QG _ gI).trans gP⟩⟩
end
def bk (L : List Int) (xs : List jH) : List Int := (xs.reverse.map xP).foldl (fun L x => Ed L x.1 x.2.1 x.2.2) L
theorem agF (L : List Int) (xs : List jH) (x : jH) : bk L (xs ++ [x]) = bk (Ed L x.1 x.2.2 x.2.1) xs := by
  unfold bk; rw [List.reverse_append]; rfl
theorem ac6 (L : List Int) (xs ys : List jH) : bk L (xs ++ ys) = bk (bk L ys) xs := by
  unfold bk; rw [List.reverse_append, List.map_append, List.foldl_append]
theorem TQ (L : List Int) (p m : Int) (l : List jH) : (aX.apps (L, p, m) l).1 = l.foldl (fun L x => Ed L x.1 x.2.1 x.2.2) L := by
  unfold aX.apps
  induction l generalizing L p m with
  | nil => rfl
  | cons x l ih => exact ih _ _ _
theorem Zw {L : List Int} {i j : Int} {l : List Int} (h : L.length ≤ 1024) : (nP L i j l).length ≤ 1024 := by
  unfold nP; split
  · rename_i hE
    unfold lG at hE
    split at hE
    · simp at hE
    · split at hE
      · simp at hE
      · simp; omega
  · exact h
theorem afl {L : List Int} {a : Int} {dl il : List Int} (h : L.length ≤ 1024) : (Ed L a dl il).length ≤ 1024 := by
  unfold Ed; split
  · exact Zw h
  · exact h
theorem aiF {L : List Int} (h : L.length ≤ 1024) (xs : List jH) : (bk L xs).length ≤ 1024 := by
  unfold bk
  generalize xs.reverse.map xP = l
  induction l generalizing L with
  | nil => exact h
  | cons x l ih => exact ih (afl h)
theorem ac7 {L : List Int} {i j : Int} {l : List Int} (h : L.length ≤ 1024) (hE : lG L i j l = 0) : Ed (nP L i j l) (yw L i j l) (nV L i j l) (nU L i j l) = L := by
  have hb : 0 ≤ i ∧ i ≤ j ∧ j ≤ L.length := by
    unfold lG at hE
    split at hE
    · simp at hE
    · omega
  unfold nP yw nV nU
  rw [if_pos hE, if_pos hE, if_pos hE, if_pos hE]
  have hta : (L.take i.toNat).length = i.toNat := by simp; omega
  have hdl : ((L.drop i.toNat).take (j - i).toNat).length = (j - i).toNat := by simp; omega
  have e1 : (L.take i.toNat ++ l ++ L.drop j.toNat).drop i.toNat = l ++ L.drop j.toNat := by rw [List.append_assoc]; exact List.drop_left' hta
  have hf : Dq (L.take i.toNat ++ l ++ L.drop j.toNat) i l = true := by
    unfold Dq; rw [e1, List.take_left]; simp; omega
  have hr : lG (L.take i.toNat ++ l ++ L.drop j.toNat) i (i + l.length) ((L.drop i.toNat).take (j - i).toNat) = 0 := by
    unfold lG; rw [if_neg (by simp; omega), if_neg (by simp; omega)]
  have ha : CO (L.take i.toNat ++ l ++ L.drop j.toNat) i l ((L.drop i.toNat).take (j - i).toNat) = 0 := by
    unfold CO; rw [if_neg (by simp; omega), hf]; exact hr
  unfold Ed
  rw [if_pos ha]
  unfold nP
  rw [if_pos hr, show (i + (l.length : Int)).toNat = i.toNat + l.length from by omega, ← List.drop_drop, e1, List.drop_left]
  rw [List.append_assoc, List.append_assoc, List.take_left' hta]
  rw [show L.drop j.toNat = (L.drop i.toNat).drop (j - i).toNat from by rw [List.drop_drop]; congr 1; omega, List.take_append_drop, List.take_append_drop]
structure UI (L : List Int) (G : List (List jH)) (N : List jH) (A : List Int) (n : Nat) : Prop where
  len : L.length ≤ 1024
  ne : ∀ g ∈ G, g ≠ []
  bk : bk L (G.flatten ++ N) = A
  tot : iH G N ≤ n
structure PO (s : aX) (A : List Int) (n : Nat) : Prop where
  inn : s.inn = true
  now : UI s.c.L s.here s.put A n
  was : UI s.was.L (s.was.un s.was.place) [] A n
structure NW (s : aX) (A : List Int) (n : Nat) : Prop where
  inn : s.inn = false
  put : s.put = []
  now : UI s.c.L s.here [] A n
section
variable {s t : aX} {A L : List Int} {n m : Nat} {G : List (List jH)} {N : List jH}
theorem UI.more (h : UI L G N A n) (hm : n ≤ m) : UI L G N A m := ⟨h.len, h.ne, h.bk, Nat.le_trans h.tot hm⟩
theorem PO.more (h : PO s A n) (hm : n ≤ m) : PO s A m := ⟨h.inn, h.now.more hm, h.was.more hm⟩
theorem PO.same (h : PO s A n) (h1 : t.inn = s.inn) (h2 : t.c.L = s.c.L) (h3 : t.here = s.here) (h4 : t.put = s.put) (h5 : t.was = s.was) : PO t A n := ⟨h1.trans h.inn, by rw [h2, h3, h4]; exact h.now, by rw [h5]; exact h.was⟩
theorem NW.begin (h : NW s A n) : PO s.dA A n := by
  have e : s.dA = { s with inn := true, was := s.c, cls := 0, lS := false, jc := false, argues := false, whole := true, put := [] } := by unfold aX.dA; rw [if_neg (by rw [h.inn]; decide)]
  rw [e]
  exact ⟨rfl, h.now, h.now⟩
theorem abd (G : List (List jH)) (N : List jH) (x : jH) : iH G (N ++ [x]) = iH G N + 1 := by unfold iH; simp; omega
theorem PO.Zx (h : PO s A n) (hn : n < 16384) (i j : Int) (l : List Int) : PO (s.gy i j l) A (n + 1) := by
  obtain ⟨h1, h2, h3⟩ := h
  have hlen := h2.len
  unfold aX.gy
  rw [if_pos h1]
  by_cases hE : lG s.c.L i j l = 0
  · have hb := ac7 hlen hE
    unfold aX.nI
    split
    · rename_i h0
      have hd : nU s.c.L i j l = [] ∧ nV s.c.L i j l = [] := ⟨List.length_eq_zero_iff.1 (by dsimp only at h0; omega), List.length_eq_zero_iff.1 (by dsimp only at h0; omega)⟩
      have hLs : nP s.c.L i j l = s.c.L := by
        have hb2 : 0 ≤ i ∧ i ≤ j ∧ j ≤ s.c.L.length := by
          unfold lG at hE
          split at hE
          · simp at hE
          · omega
        obtain ⟨d1, d2⟩ := hd
        unfold nU at d1; unfold nV at d2
        rw [if_pos hE] at d1 d2
        have d3 := congrArg List.length d1
        simp at d3
        have hij : i = j := by omega
        subst hij d2
        unfold nP; rw [if_pos hE]; simp
      exact ⟨h1, by show UI (nP s.c.L i j l) s.here s.put A (n + 1); rw [hLs]; exact h2.more (by omega), h3.more (by omega)⟩
    · rw [if_neg (by show ¬ 16384 ≤ iH s.here s.put; have := h2.tot; omega)]
      refine ⟨h1, ⟨Zw hlen, h2.ne, ?_, ?_⟩, h3.more (by omega)⟩
      · show bk (nP s.c.L i j l) (s.here.flatten ++ (s.put ++ [_])) = A
        rw [← List.append_assoc, agF]
        show bk (Ed (nP s.c.L i j l) (yw s.c.L i j l) (nV s.c.L i j l) (nU s.c.L i j l)) _ = A
        rw [hb]; exact h2.bk
      · show iH s.here (s.put ++ [_]) ≤ n + 1
        rw [abd]; have := h2.tot; omega
  · have hL : nP s.c.L i j l = s.c.L := by unfold nP; rw [if_neg hE]
    have hx : (nU s.c.L i j l).length + (nV s.c.L i j l).length = 0 := by unfold nU nV; rw [if_neg hE, if_neg hE]; rfl
    unfold aX.nI
    rw [if_pos hx]
    exact ⟨h1, by show UI (nP s.c.L i j l) s.here s.put A (n + 1); rw [hL]; exact h2.more (by omega), h3.more (by omega)⟩
theorem PO.copy (h : PO s A n) (i j : Int) (b : Bool) : PO (s.uS i j b) A n := by
  unfold aX.uS; split
  · exact h.same rfl rfl rfl rfl rfl
  · exact h
theorem J4 (s : aX) (on : Bool) : (s.jJ on).flatten = s.here.flatten ++ s.put := by
  unfold aX.jJ
  split
  · rename_i h; rw [h, List.append_nil]
  · split
    · rcases List.eq_nil_or_concat s.here with hc | ⟨hs, g, hc⟩
      · rw [hc]; simp
      · rw [List.concat_eq_append] at hc; rw [hc]; simp
    · simp
theorem ac8 {s : aX} (on : Bool) (h : ∀ g ∈ s.here, g ≠ []) : ∀ g ∈ s.jJ on, g ≠ [] := by
  unfold aX.jJ
  split
  · exact h
  · rename_i hp
    split
    · rcases List.eq_nil_or_concat s.here with hc | ⟨hs, g, hc⟩
      · rw [hc]; simpa using hp
      · rw [List.concat_eq_append] at hc; rw [hc] at h ⊢
        simp only [List.getLast?_append, List.getLast?_singleton, Option.some_or, List.dropLast_concat]
        intro g' hg
        rcases List.mem_append.1 hg with hg | hg
        · exact h g' (List.mem_append.2 (.inl hg))
        · rw [List.mem_singleton.1 hg]; simp [hp]
    · intro g hg
      rcases List.mem_append.1 hg with hg | hg
      · exact h g hg
      · rw [List.mem_singleton.1 hg]; exact hp
theorem VG (G : List (List jH)) (N : List jH) : iH G N = (G.flatten ++ N).length := by unfold iH; rw [List.length_append, List.length_flatten]
theorem UI.flush {s : aX} (h : UI L s.here s.put A n) (on : Bool) : UI L (s.jJ on) [] A n := by
  refine ⟨h.len, ac8 on h.ne, by rw [List.append_nil, J4]; exact h.bk, ?_⟩
  rw [VG, List.append_nil, J4, ← VG]; exact h.tot
theorem Zy (s : aX) (on : Bool) : (s.dH on).here = s.jJ on ∧ (s.dH on).put = [] ∧ (s.dH on).c.L = s.c.L ∧ (s.dH on).was = s.was := by
  unfold aX.dH
  split
  · rename_i h
    refine ⟨?_, h, rfl, rfl⟩
    unfold aX.jJ; rw [if_pos h]
  · exact ⟨jv _ _ _, rfl, rfl, rfl⟩
theorem UI.drop (h : UI L G [] A n) (hG : G ≠ []) : UI (Go.Proofs.YtnhhmieghbfalaaGreatDoor.bk L (G.getLastD [])) G.dropLast [] A n := by
  rcases List.eq_nil_or_concat G with hc | ⟨hs, g, hc⟩
  · exact absurd hc hG
  · rw [List.concat_eq_append] at hc; subst hc
    obtain ⟨h1, h2, h3, h4⟩ := h
    rw [show (hs ++ [g]).getLastD [] = g from by simp, List.dropLast_concat]
    refine ⟨aiF h1 _, fun g' hg => h2 g' (List.mem_append.2 (.inl hg)), ?_, ?_⟩
    · rw [List.append_nil] at h3 ⊢
      rw [← h3, List.flatten_append, ac6]; simp
    · unfold iH at *; simp at *; omega
theorem PO.agD (h : PO s A n) : PO s.o7 A n := by
  obtain ⟨h1, h2, h3⟩ := h
  obtain ⟨f1, f2, f3, f4⟩ := Zy s false
  have hf : UI (s.dH false).c.L (s.dH false).here (s.dH false).put A n := by rw [f1, f2, f3]; exact h2.flush false
  unfold aX.o7
  rw [if_pos h1]
  dsimp only
  split
  · exact ⟨(TM s false).trans h1, hf, by rw [f4]; exact h3⟩
  · rename_i hG
    rw [f2] at hf
    refine ⟨(TM s false).trans h1, ?_, by show UI (s.dH false).was.L _ [] A n; rw [show (((s.dH false).lY (s.dH false).here.dropLast).Dx (((s.dH false).here.getLastD []).reverse.map xP)).wC.was = s.was from f4, f4]; exact h3⟩
    have hd := hf.drop hG
    show UI (aX.apps ((s.dH false).c.L, (s.dH false).c.pt, (s.dH false).c.mark) (((s.dH false).here.getLastD []).reverse.map xP)).1 (um (s.dH false).c.un (s.dH false).c.place (s.dH false).here.dropLast (s.dH false).c.place) (s.dH false).put A n
    rw [TQ, jv, f2]
    exact hd
theorem PO.edit (h : PO s A n) (hn : n < 16384) (p : D8) : PO (s.edit p) A (n + 1) := by
  have hm : PO s A (n + 1) := h.more (by omega)
  unfold aX.edit
  by_cases k0 : p.kd = 0
  · rw [if_pos k0]
    unfold aX.qM; rw [if_pos h.inn]; dsimp only
    by_cases hc : s.ET p.text = 0 ∧ s.cls = 0
    · rw [if_pos hc]; exact (h.Zx hn _ _ _).same rfl rfl rfl rfl rfl
    · rw [if_neg hc]; exact h.Zx hn _ _ _
  rw [if_neg k0]
  by_cases k1 : p.kd = 1
  · rw [if_pos k1]
    exact h.Zx hn _ _ _
  rw [if_neg k1]
  by_cases k2 : p.kd = 2
  · rw [if_pos k2]
    exact h.Zx hn _ _ _
  rw [if_neg k2]
  by_cases k3 : p.kd = 3
  · rw [if_pos k3]
    exact h.Zx hn _ _ _
  rw [if_neg k3]
  by_cases k4 : p.kd = 4
  · rw [if_pos k4]
    unfold aX.zZ
    by_cases hc : s.oZ p.a p.b p.back = 0
    · rw [if_pos hc]; exact (h.copy _ _ _).Zx hn _ _ _
    · rw [if_neg hc]; exact hm
  rw [if_neg k4]
  by_cases k5 : p.kd = 5
  · rw [if_pos k5]
    exact hm.copy _ _ _
  rw [if_neg k5]
  by_cases k6 : p.kd = 6
  · rw [if_pos k6]
    unfold aX.ql
    by_cases hc : s.yN = 0
    · rw [if_pos hc]; exact (h.Zx hn s.c.pt s.c.pt s.top).same rfl rfl rfl rfl rfl
    · rw [if_neg hc]; exact hm
  rw [if_neg k6]
  by_cases k7 : p.kd = 7
  · rw [if_pos k7]
    unfold aX.zF
    by_cases hc : s.EU p.a = 0
    · rw [if_pos hc]; exact (h.Zx hn s.c.fr s.c.to (s.BF p.a)).same rfl rfl rfl rfl rfl
    · rw [if_neg hc]; exact hm
  rw [if_neg k7]
  by_cases k8 : p.kd = 8
  · rw [if_pos k8]
    unfold aX.Aa; rw [if_pos h.inn]; exact hm.same rfl rfl rfl rfl rfl
  rw [if_neg k8]
  by_cases k9 : p.kd = 9
  · rw [if_pos k9]
    unfold aX.BU; rw [if_pos h.inn]; exact hm.same rfl rfl rfl rfl rfl
  rw [if_neg k9]
  by_cases k10 : p.kd = 10
  · rw [if_pos k10]
    unfold aX.BX; rw [if_pos h.inn]; exact hm.same rfl rfl rfl rfl rfl
  rw [if_neg k10]
  by_cases k11 : p.kd = 11
  · rw [if_pos k11]
    exact hm.agD
  rw [if_neg k11]
  by_cases k17 : p.kd = 17
  · rw [if_pos k17]
    unfold aX.BZ
    by_cases hc : s.Ac p.a = 0
    · rw [if_pos hc]; exact hm.same rfl rfl rfl rfl rfl
    · rw [if_neg hc]; exact hm
  rw [if_neg k17]
  exact hm
theorem afm (u : aX) (h : u.inn = true) : (u.nZ 0).put = [] := by
  by_cases ha : u.argues = true <;> by_cases hp : u.put = [] <;> by_cases hc : u.cls = 2 <;> simp [aX.nZ, aX.nY, aX.lT, aX.dH, aX.zM, aX.lY, aX.jJ, aX.here, jv, ha, hp, hc, h]
theorem PO.end_ (h : PO s A n) (err : Int) : NW (s.nZ err) A n := by
  by_cases he : err = 0
  · subst he
    refine ⟨JZ _ h.inn, afm _ h.inn, ?_⟩
    have e1 : (s.nZ 0).here = s.jJ (s.typed && s.c.run) := QH s h.inn
    rw [MB _ h.inn, e1]
    exact h.now.flush _
  · unfold aX.nZ
    rw [if_pos h.inn, if_neg he]
    exact ⟨rfl, rfl, h.was⟩
structure aiG where
  parts : List D8
  err : Int
def aX.Zz (s : aX) (p : D8) : aX := if p.kd ≠ 13 ∧ p.kd < 20 then s.edit p else s
def aX.am7 (s : aX) (c : aiG) : aX := (c.parts.foldl aX.Zz s.dA).nZ c.err
theorem PO.parts (l : List D8) : ∀ {s : aX} {n : Nat}, PO s A n → n + l.length ≤ 16384 → PO (l.foldl aX.Zz s) A (n + l.length) := by
  induction l with
  | nil => intro s n h _; exact h
  | cons p l ih =>
    intro s n h hn
    rw [List.length_cons] at hn ⊢
    have h1 : PO (s.Zz p) A (n + 1) := by
      unfold aX.Zz; split
      · exact h.edit (by omega) p
      · exact h.more (by omega)
    have := ih h1 (by omega)
    rwa [show n + 1 + l.length = n + (l.length + 1) from by omega] at this
def am8 (cs : List aiG) : Nat := (cs.map fun c => c.parts.length).sum
def TR (s : aX) : aX := s.dA.o7.nZ 0
def VH (s : aX) : Nat → aX
  | 0 => s
  | k + 1 => TR (VH s k)
theorem NW.afn (h : NW s A n) : s.dA.here = s.here ∧ s.dA.put = [] := by
  have e : s.dA = { s with inn := true, was := s.c, cls := 0, lS := false, jc := false, argues := false, whole := true, put := [] } := by unfold aX.dA; rw [if_neg (by rw [h.inn]; decide)]
  rw [e]; exact ⟨rfl, rfl⟩
theorem NW.aj3 (h : NW s A n) (hG : s.here ≠ []) : NW (TR s) A n ∧ s.dA.oW = 0 ∧ (TR s).here = s.here.dropLast := by
  have hb := h.begin
  obtain ⟨e1, e2⟩ := h.afn
  have hf : s.dA.dH false = s.dA := by unfold aX.dH; rw [if_pos e2]
  refine ⟨hb.agD.end_ 0, by unfold aX.oW; rw [if_pos hb.inn, hf, e1, if_neg hG], ?_⟩
  have hi := hb.agD.inn
  have e3 : (TR s).here = s.dA.o7.jJ (s.dA.o7.typed && s.dA.o7.c.run) := QH _ hi
  have e4 : s.dA.o7 = ((s.dA.lY s.here.dropLast).Dx ((s.here.getLastD []).reverse.map xP)).wC := by
    unfold aX.o7; rw [if_pos hb.inn]; dsimp only; rw [hf, e1, if_neg hG]
  rw [e3, e4]
  unfold aX.jJ
  rw [if_pos (by exact e2)]
  exact jv _ _ _
theorem NW.VH (h : NW s A n) : ∀ k, k ≤ s.here.length → NW (VH s k) A n ∧ (Go.Proofs.YtnhhmieghbfalaaGreatDoor.VH s k).here.length = s.here.length - k
  | 0, _ => ⟨h, rfl⟩
  | k + 1, hk => by
    obtain ⟨a, b⟩ := NW.VH h k (by omega)
    obtain ⟨c1, c2, c3⟩ := a.aj3 (fun c => by rw [c] at b; simp at b; omega)
    refine ⟨c1, ?_⟩
    show (TR (Go.Proofs.YtnhhmieghbfalaaGreatDoor.VH s k)).here.length = _
    rw [c3, List.length_dropLast, b]; omega
theorem NW.empty (h : NW s A n) (hG : s.here = []) : s.dA.oW = 6 ∧ s.dA.o7 = s.dA ∧ s.dA.GN = s.dA ∧ (s.dA.nZ 0).c.L = A := by
  have hb := h.begin
  obtain ⟨e1, e2⟩ := h.afn
  have hf : s.dA.dH false = s.dA := by unfold aX.dH; rw [if_pos e2]
  refine ⟨by unfold aX.oW; rw [if_pos hb.inn, hf, e1, if_pos hG], by unfold aX.o7; rw [if_pos hb.inn]; dsimp only; rw [hf, e1, if_pos hG], by unfold aX.GN; rw [if_pos hb.inn]; dsimp only; rw [hf, e1, if_pos hG], ?_⟩
  have := h.now.bk
  rw [hG] at this
  rw [MB _ hb.inn, wU]
  exact this
end
end Go.Proofs.YtnhhmieghbfalaaGreatDoor
end
section
namespace Go.Proofs.YtnhhmieghbfalaaGreatDoor

theorem ac9 {r : Int} : lD r = true ↔ (0 ≤ r ∧ r < 55296 ∨ 57343 < r ∧ r ≤ 1114111) := by unfold lD; rw [decide_eq_true_eq]
theorem afo {x : Int} (h0 : 0 ≤ x) : (kV x = 1 ∧ x < 128) ∨ (kV x = 2 ∧ 194 ≤ x ∧ x ≤ 223) ∨ (kV x = 3 ∧ 224 ≤ x ∧ x ≤ 239) ∨ (kV x = 4 ∧ 240 ≤ x ∧ x ≤ 244) ∨ kV x = 0 := by
  unfold kV
  by_cases h1 : x < 128
  · rw [if_pos h1]; omega
  · rw [if_neg h1]
    by_cases h2 : 194 ≤ x ∧ x ≤ 223
    · rw [if_pos h2]; omega
    · rw [if_neg h2]
      by_cases h3 : 224 ≤ x ∧ x ≤ 239
      · rw [if_pos h3]; omega
      · rw [if_neg h3]
        by_cases h4 : 240 ≤ x ∧ x ≤ 244
        · rw [if_pos h4]; omega
        · rw [if_neg h4]; omega
theorem DJ {b : List Int} {k j : Nat} (h : zL b k = true) (hj : j < k) : CG b j = true := by
  have := Q5 h (m := j + 1) (by omega)
  simp only [zL, Bool.and_eq_true] at this
  exact this.2
theorem EH {b : List Int} {j : Nat} (h : CG b j = true) (hj : 0 < j) : 128 ≤ b.getD j 0 ∧ b.getD j 0 ≤ 191 := by
  unfold CG at h
  simp only [Bool.or_eq_true, Bool.and_eq_true, decide_eq_true_eq] at h
  rcases h with h | h
  · simp at h; omega
  · exact h.1
theorem ZA {b : List Int} (h : CG b 1 = true) : FZ (b.getD 0 0) ≤ b.getD 1 0 ∧ b.getD 1 0 ≤ zK (b.getD 0 0) := by
  unfold CG at h
  simp only [Bool.or_eq_true, Bool.and_eq_true, decide_eq_true_eq] at h
  rcases h with h | ⟨_, h | h⟩
  · simp at h
  · simp at h
  · exact h
theorem abe {b : List Int} (h : yC b = true) : (nT b).2 = kV (b.getD 0 0) ∧ zL b (kV (b.getD 0 0)) = true := by
  have hn := EL h
  have h2 := Ol hn.2.2.2
  refine ⟨h2, ?_⟩
  rw [h2] at hn
  unfold yC at h; simp only [decide_eq_true_eq] at h
  rw [h2] at h
  have h1 := h.1
  unfold nT at h1
  rw [if_neg hn.2.2.2, if_neg (show ¬ kV (b.getD 0 0) = 0 by omega)] at h1
  by_cases hg : zL b (min (kV (b.getD 0 0)) b.length) = true
  · rwa [Nat.min_eq_left hn.2.1] at hg
  · rw [if_neg hg] at h1; simp only at h1; omega
theorem abf {b : List Int} (hb : Jv b) : lD (wX b).1 = true := by
  by_cases hw : yC b = true
  · obtain ⟨h1, h2⟩ := abe hw
    have hn := EL hw
    have y0 := EM hb 0
    unfold wX
    rw [if_pos hw, h1]
    rw [h1] at hn
    rw [ac9]
    rcases afo y0.1 with ⟨e, h⟩ | ⟨e, h⟩ | ⟨e, h⟩ | ⟨e, h⟩ | e
    · rw [e]; unfold KE; simp only [if_true]; omega
    · rw [e] at h2 ⊢
      have k1 := EH (DJ h2 (show 1 < 2 by decide)) (by decide)
      unfold KE; simp only [show ¬ (2 = 1) by decide, if_false, if_true]; omega
    · rw [e] at h2 ⊢
      have k1 := EH (DJ h2 (show 1 < 3 by decide)) (by decide)
      have k2 := EH (DJ h2 (show 2 < 3 by decide)) (by decide)
      have k3 := ZA (DJ h2 (show 1 < 3 by decide))
      have hhi : b.getD 0 0 = 237 → b.getD 1 0 ≤ 159 := fun q => by
        have := k3.2; unfold zK at this; rw [if_pos q] at this; exact this
      unfold KE; simp only [show ¬ (3 = 1) by decide, show ¬ (3 = 2) by decide, if_false, if_true]; omega
    · rw [e] at h2 ⊢
      have k1 := EH (DJ h2 (show 1 < 4 by decide)) (by decide)
      have k2 := EH (DJ h2 (show 2 < 4 by decide)) (by decide)
      have k4 := EH (DJ h2 (show 3 < 4 by decide)) (by decide)
      have k3 := ZA (DJ h2 (show 1 < 4 by decide))
      have hlo : b.getD 0 0 = 240 → 144 ≤ b.getD 1 0 := fun q => by
        have := k3.1; unfold FZ at this; rw [if_neg (by omega), if_pos q] at this; exact this
      have hhi : b.getD 0 0 = 244 → b.getD 1 0 ≤ 143 := fun q => by
        have := k3.2; unfold zK at this; rw [if_neg (by omega), if_pos q] at this; exact this
      unfold KE; simp only [show ¬ (4 = 1) by decide, show ¬ (4 = 2) by decide, show ¬ (4 = 3) by decide, if_false]; omega
    · omega
  · rw [JW (by simpa using hw)]; rfl
theorem Xy {b : List Int} (hb : Jv b) : ∀ r ∈ yD b, lD r = true := by
  induction hn : b.length using Nat.strongRecOn generalizing b with
  | _ n ih =>
    by_cases he : b = []
    · subst he; simp [LJ]
    · have h := Jw he
      rw [Dl he]
      intro r hr
      rcases List.mem_cons.1 hr with rfl | hr
      · exact abf hb
      · exact ih (b.drop (wX b).2).length (by simp; omega) (Ho hb _) rfl r hr
end Go.Proofs.YtnhhmieghbfalaaGreatDoor
end
section
namespace Go.Proofs.YtnhhmieghbfalaaGreatDoor
open Go.RowKit
def RE (e : jH) : Prop := jd e.2.1 ∧ jd e.2.2
def RG (G : List (List jH)) : Prop := ∀ g ∈ G, ∀ e ∈ g, RE e
structure RC (c : rV) : Prop where
  L : jd c.L
  E : ∀ x ∈ c.E, jd x
  un : ∀ k, RG (c.un k)
structure RS (s : aX) : Prop where
  c : RC s.c
  put : ∀ e ∈ s.put, RE e
  was : s.inn = true → RC s.was
structure Fr (s t : aX) : Prop where
  inn : t.inn = s.inn
  was : t.was = s.was
  hl : t.hl = s.hl
  nR : t.nR = s.nR
section
variable {s t u : aX} {L l : List Int}
theorem jd.nil : jd [] := fun x hx => absurd hx (by simp)
theorem jd.app (h : jd L) (g : jd l) : jd (L ++ l) := fun x hx => (List.mem_append.1 hx).elim (h x) (g x)
theorem jd.take (h : jd L) (n : Nat) : jd (L.take n) := fun x hx => h x (List.mem_of_mem_take hx)
theorem jd.drop (h : jd L) (n : Nat) : jd (L.drop n) := fun x hx => h x (List.mem_of_mem_drop hx)
theorem afp {i j : Int} (h : jd L) (g : jd l) : jd (nP L i j l) := by
  unfold nP; split
  · exact ((h.take _).app g).app (h.drop _)
  · exact h
theorem agG {i j : Int} (h : jd L) : jd (nU L i j l) := by
  unfold nU; split
  · exact (h.drop _).take _
  · exact jd.nil
theorem agH {i j : Int} (g : jd l) : jd (nV L i j l) := by
  unfold nV; split
  · exact g
  · exact jd.nil
theorem aj4 {a : Int} {dl il : List Int} (h : jd L) (g : jd il) : jd (Ed L a dl il) := by
  unfold Ed; split
  · exact afp h g
  · exact h
theorem aj5 {xs : List jH} (h : jd L) (g : ∀ e ∈ xs, RE e) : jd (bk L xs) := by
  unfold bk
  have g2 : ∀ e ∈ xs.reverse.map xP, RE e := fun e he => by
    obtain ⟨x, hx, rfl⟩ := List.mem_map.1 he
    exact ⟨(g x (List.mem_reverse.1 hx)).2, (g x (List.mem_reverse.1 hx)).1⟩
  generalize xs.reverse.map xP = l at g2
  induction l generalizing L with
  | nil => exact h
  | cons x l ih => exact ih (aj4 h (g2 x List.mem_cons_self).2) fun e he => g2 e (List.mem_cons_of_mem _ he)
theorem Xz {E : List (List Int)} (h : ∀ x ∈ E, jd x) (n : Nat) : jd (E.getD n []) := by
  rw [List.getD_eq_getElem?_getD]
  by_cases hn : n < E.length
  · rw [List.getElem?_eq_getElem hn]; exact h _ (List.getElem_mem _)
  · rw [List.getElem?_eq_none (by omega)]; exact jd.nil
theorem aiH {E : List (List Int)} {p : Nat} {way : Int} (h : ∀ x ∈ E, jd x) (g : jd l) : ∀ x ∈ (oN E p way l).2.1, jd x := by
  unfold oN
  split
  · exact h
  · split
    · exact h
    · split
      · split
        · exact h
        · intro x hx
          rcases List.mem_cons.1 hx with rfl | hx
          · split
            · exact (Xz h 0).app g
            · exact g.app (Xz h 0)
          · exact h x (List.mem_of_mem_tail hx)
      · split
        · exact h
        · intro x hx
          rcases List.mem_cons.1 (List.mem_of_mem_take hx) with rfl | hx
          · exact g
          · exact h x hx
theorem Fr.refl (s : aX) : Fr s s := ⟨rfl, rfl, rfl, rfl⟩
theorem Fr.trans (h : Fr s t) (g : Fr t u) : Fr s u := ⟨g.inn.trans h.inn, g.was.trans h.was, g.hl.trans h.hl, g.nR.trans h.nR⟩
theorem XA {U : Int → List (List jH)} {k : Int} {G : List (List jH)} (h : ∀ k, RG (U k)) (g : RG G) : ∀ x, RG (um U k G x) := fun x => by
  unfold um; split
  · exact g
  · exact h x
def Kept (s t : aX) : Prop := RS t ∧ Fr s t
theorem aiI (h : RS s) {x : jH} (hx : RE x) : Kept s (s.nI x) := by
  unfold aX.nI
  split
  · exact ⟨h, Fr.refl s⟩
  · split
    · exact ⟨⟨⟨h.c.L, h.c.E, XA h.c.un (fun g hg => absurd hg (by simp))⟩, fun e he => by rw [List.mem_singleton.1 he]; exact hx, h.was⟩, ⟨rfl, rfl, rfl, rfl⟩⟩
    · exact ⟨⟨h.c, fun e he => (List.mem_append.1 he).elim (h.put e) (fun he => by rw [List.mem_singleton.1 he]; exact hx), h.was⟩, ⟨rfl, rfl, rfl, rfl⟩⟩
theorem MC (h : RS s) (i j : Int) (g : jd l) : Kept s (s.gy i j l) := by
  unfold aX.gy
  split
  · have h1 : RS (s.jw (nP s.c.L i j l) (wo s.c.L s.c.pt i j l) (wu s.c.L s.c.mark i j l)) := ⟨⟨afp h.c.L g, h.c.E, h.c.un⟩, h.put, h.was⟩
    obtain ⟨a, b⟩ := aiI h1 (x := (yw s.c.L i j l, nU s.c.L i j l, nV s.c.L i j l)) ⟨agG h.c.L, agH g⟩
    exact ⟨a, ⟨b.inn, b.was, b.hl, b.nR⟩⟩
  · exact ⟨h, Fr.refl s⟩
theorem afq (h : RS s) (i j : Int) (b : Bool) : Kept s (s.uS i j b) := by
  unfold aX.uS
  split
  · exact ⟨⟨⟨h.c.L, aiH h.c.E ((h.c.L.drop _).take _), h.c.un⟩, h.put, h.was⟩, ⟨rfl, rfl, rfl, rfl⟩⟩
  · exact ⟨h, Fr.refl s⟩
theorem QI (h : RS s) (on : Bool) : Kept s (s.dH on) := by
  unfold aX.dH
  split
  · exact ⟨h, Fr.refl s⟩
  · refine ⟨⟨⟨h.c.L, h.c.E, XA h.c.un fun g hg e he => ?_⟩, fun e he => absurd he (by simp), h.was⟩, ⟨rfl, rfl, rfl, rfl⟩⟩
    have hf : e ∈ (s.jJ on).flatten := List.mem_flatten.2 ⟨g, hg, he⟩
    rw [J4] at hf
    rcases List.mem_append.1 hf with hf | hf
    · obtain ⟨g', hg', he'⟩ := List.mem_flatten.1 hf
      exact h.c.un _ g' hg' e he'
    · exact h.put e hf
theorem afr (h : RS s) : Kept s s.o7 := by
  unfold aX.o7
  split
  · obtain ⟨a, b⟩ := QI h false
    dsimp only
    split
    · exact ⟨a, b⟩
    · refine ⟨⟨⟨?_, a.c.E, XA a.c.un fun g hg => a.c.un _ g (List.dropLast_subset _ hg)⟩, a.put, a.was⟩, ⟨b.inn, b.was, b.hl, b.nR⟩⟩
      show jd (aX.apps ((s.dH false).c.L, (s.dH false).c.pt, (s.dH false).c.mark) (((s.dH false).here.getLastD []).reverse.map xP)).1
      rw [TQ]
      refine aj5 a.c.L fun e he => ?_
      rename_i hne
      rcases List.eq_nil_or_concat (s.dH false).here with hc | ⟨hs, g, hc⟩
      · exact absurd hc hne
      · rw [List.concat_eq_append] at hc
        rw [hc] at he
        have : e ∈ g := by simpa using he
        exact a.c.un (s.dH false).c.place g (by show g ∈ (s.dH false).here; rw [hc]; simp) e this
  · exact ⟨h, Fr.refl s⟩
theorem aiJ (s : aX) (k : Int) : jd (s.uT k) := by
  unfold aX.uT
  intro r hr
  have hv := Xy (EG _) r hr
  unfold lD at hv
  simp at hv
  omega
theorem aiK (h : RS s) (k : Int) : Kept s (s.zN k) := by
  unfold aX.zN
  split
  · obtain ⟨a, b⟩ := QI h false
    exact ⟨⟨⟨aiJ s k, a.c.E, a.c.un⟩, a.put, a.was⟩, ⟨b.inn, b.was, b.hl, b.nR⟩⟩
  · exact ⟨h, Fr.refl s⟩
end
section
variable {s t : aX} {p : D8}
theorem afs (h : RS s) (g : jd p.text) : Kept s (s.edit p) := by
  have hs : Kept s s := ⟨h, Fr.refl s⟩
  unfold aX.edit
  by_cases k0 : p.kd = 0
  · rw [if_pos k0]
    unfold aX.qM
    split
    · dsimp only
      obtain ⟨a, b⟩ := MC h s.c.pt (s.nH p.text) g
      split
      · exact ⟨⟨a.c, a.put, a.was⟩, ⟨b.inn, b.was, b.hl, b.nR⟩⟩
      · exact ⟨a, b⟩
    · exact hs
  rw [if_neg k0]
  by_cases k1 : p.kd = 1
  · rw [if_pos k1]; exact MC h _ _ g
  rw [if_neg k1]
  by_cases k2 : p.kd = 2
  · rw [if_pos k2]; exact MC h _ _ jd.nil
  rw [if_neg k2]
  by_cases k3 : p.kd = 3
  · rw [if_pos k3]; exact MC h _ _ g
  rw [if_neg k3]
  by_cases k4 : p.kd = 4
  · rw [if_pos k4]
    unfold aX.zZ
    split
    · obtain ⟨a, b⟩ := afq h p.a p.b p.back
      obtain ⟨c, d⟩ := MC a p.a p.b jd.nil
      exact ⟨c, b.trans d⟩
    · exact hs
  rw [if_neg k4]
  by_cases k5 : p.kd = 5
  · rw [if_pos k5]; exact afq h _ _ _
  rw [if_neg k5]
  by_cases k6 : p.kd = 6
  · rw [if_pos k6]
    unfold aX.ql
    split
    · obtain ⟨a, b⟩ := MC h s.c.pt s.c.pt (l := s.top) (Xz h.c.E _)
      exact ⟨⟨⟨a.c.L, a.c.E, a.c.un⟩, a.put, a.was⟩, ⟨b.inn, b.was, b.hl, b.nR⟩⟩
    · exact hs
  rw [if_neg k6]
  by_cases k7 : p.kd = 7
  · rw [if_pos k7]
    unfold aX.zF
    split
    · obtain ⟨a, b⟩ := MC h s.c.fr s.c.to (l := s.BF p.a) (Xz h.c.E _)
      exact ⟨⟨⟨a.c.L, h.c.E, a.c.un⟩, a.put, a.was⟩, ⟨b.inn, b.was, b.hl, b.nR⟩⟩
    · exact hs
  rw [if_neg k7]
  by_cases k8 : p.kd = 8
  · rw [if_pos k8]; unfold aX.Aa; split
    · exact ⟨⟨⟨h.c.L, h.c.E, h.c.un⟩, h.put, h.was⟩, ⟨rfl, rfl, rfl, rfl⟩⟩
    · exact hs
  rw [if_neg k8]
  by_cases k9 : p.kd = 9
  · rw [if_pos k9]; unfold aX.BU; split
    · exact ⟨⟨⟨h.c.L, h.c.E, h.c.un⟩, h.put, h.was⟩, ⟨rfl, rfl, rfl, rfl⟩⟩
    · exact hs
  rw [if_neg k9]
  by_cases k10 : p.kd = 10
  · rw [if_pos k10]; unfold aX.BX; split
    · exact ⟨⟨⟨h.c.L, h.c.E, h.c.un⟩, h.put, h.was⟩, ⟨rfl, rfl, rfl, rfl⟩⟩
    · exact hs
  rw [if_neg k10]
  by_cases k11 : p.kd = 11
  · rw [if_pos k11]; exact afr h
  rw [if_neg k11]
  by_cases k17 : p.kd = 17
  · rw [if_pos k17]; unfold aX.BZ; split
    · exact ⟨⟨⟨h.c.L, h.c.E, h.c.un⟩, h.put, h.was⟩, ⟨rfl, rfl, rfl, rfl⟩⟩
    · exact hs
  rw [if_neg k17]
  exact hs
theorem XB (h : RS s) : RS s.dA := by
  unfold aX.dA
  split
  · exact h
  · exact ⟨⟨h.c.L, h.c.E, h.c.un⟩, fun e he => absurd he (by simp), fun _ => h.c⟩
theorem aj6 (h : RS s) (err : Int) : RS (s.nZ err) := by
  unfold aX.nZ
  split
  · rename_i hi
    split
    · have h1 : RS s.lT := by unfold aX.lT; split <;> exact ⟨⟨h.c.L, h.c.E, h.c.un⟩, h.put, fun hc => Bool.noConfusion hc⟩
      obtain ⟨a, b⟩ := QI h1 (s.typed && s.c.run)
      unfold aX.nY
      dsimp only
      split <;> exact ⟨⟨a.c.L, a.c.E, a.c.un⟩, a.put, a.was⟩
    · have hw := h.was hi
      exact ⟨⟨hw.L, hw.E, hw.un⟩, fun e he => absurd he (by simp [aX.DV]), fun hc => Bool.noConfusion hc⟩
  · exact h
theorem aj7 (hl : List rM) (base most : Int) : RS (aX.new hl base most) := ⟨⟨jd.nil, fun x hx => absurd hx (by simp [aX.new, rV.fresh]), fun k g hg => absurd hg (by simp [aX.new, rV.fresh])⟩, fun e he => absurd he (by simp [aX.new]), fun h => Bool.noConfusion h⟩
end
end Go.Proofs.YtnhhmieghbfalaaGreatDoor
end
section
namespace Go.Proofs.YtnhhmieghbfalaaGreatDoor
open Go.RowKit
open _root_.Go.Proofs.Tryz
section
variable {L : List (Nat × Value)} {w : World} {x y : Operand} {ty : TypeId}
theorem NY {c : Int × ByteArray} (hx : ev L x = some (.agg (pF c).toArray)) (hy : ev L y = some (.agg (pF c).toArray)) : Val prog L (.binOp .neq 152 x y 152) ty w (.bool false) w := fun ρ hρ _ _ _ _ => by
  simp only [execOp, hρ _ _ hx, hρ _ _ hy]
  have h0 : (eqGuard .neq 152 x y (.agg (pF c).toArray) (.agg (pF c).toArray)).run prog w = .ok () w := run_eqGuard_agg w .neq _ x y _ _ (by kernel_rfl)
  have hf : prog.underlying 152 = some (.struct (prog.fieldsOf 152)) := by kernel_rfl
  have hp : prog.stoodInHeld 152 = false := by kernel_rfl
  have hfs : ((prog.fieldsOf 152).toList.map fun f => (f.name, f.type, f.offset)) = [("At", 3, 0), ("Text", 9, 1)] := by kernel_rfl
  have h1 : (Op.eqFields 9999 (pF c).toArray (pF c).toArray (prog.fieldsOf 152).toList).run prog w = .ok true w := by
    generalize (prog.fieldsOf 152).toList = fs at hfs
    match fs, hfs with
    | [], hfs | [_], hfs | _ :: _ :: _ :: _, hfs => simp at hfs
    | [f1, f2], hfs =>
      simp only [List.map_cons, List.map_nil, List.cons.injEq, Prod.mk.injEq, and_true] at hfs
      obtain ⟨⟨n1, t1, o1⟩, n2, t2, o2⟩ := hfs
      have p1 : xG prog 9 = true := dG underlying9 rfl
      have p2 : xG prog 3 = true := dG underlying3 rfl
      have ab5 : ∀ (e : TypeId) (xs : Array Value) (off : Nat) (v : Value), xG prog e = true → xs[off]? = some v → (part e xs off).run prog w = .ok v w := fun e xs off v h1 h2 => by simp [part, MH h1, h2]
      have st : ∀ (f : Field) (e : TypeId) (off : Nat) (u v : Value) (r : Bool) (rest : List Field), f.name ≠ "_" → f.type = e → f.offset = off → xG prog e = true → (pF c).toArray[off]? = some u → (pF c).toArray[off]? = some v → (Op.equalIn 9999 e u v).run prog w = .ok r w →
          (Op.eqFields 9999 (pF c).toArray (pF c).toArray (f :: rest)).run prog w = if r then (Op.eqFields 9999 (pF c).toArray (pF c).toArray rest).run prog w else .ok false w := fun f e off u v r rest hn ht ho hp h1 h2 h3 => by
        subst ht ho
        rw [Op.eqFields, if_pos hn, Sem.run_bind, ab5 _ _ _ _ hp h1, Result.andThen_ok, Sem.run_bind, ab5 _ _ _ _ hp h2, Result.andThen_ok, Sem.run_bind, h3, Result.andThen_ok]
        cases r
        · simp
        · simp
      rw [st f1 _ _ _ _ _ _ (by rw [n1]; decide) t1 o1 p2 rfl rfl (run_equalIn_int w 9998 3 .i64 .i64 c.1 c.1 underlying3),
        st f2 _ _ _ _ _ _ (by rw [n2]; decide) t2 o2 p1 rfl rfl (run_equalIn_string w 9998 9 c.2 c.2 underlying9)]
      simp [Op.eqFields]
  have h2 := run_neq_struct (P := prog) w 152 (pF c).toArray (pF c).toArray
  rw [run_equalIn_agg w 9999 _ _ _ hf hp, h1] at h2
  simp [h0, h2]
end
structure StM where
  pt : Int
  mrk : Int
  mode : Int
  over : Bool
  given : Bool
  minus : Bool
  arg : Int
  last : Int
  fr : Int
  to : Int
  place : Int
  aj8 : Int
  res : Int
  nR : Int
def stL (x : StM) (u ks sv : Value) : List Value := [u, .int .i64 x.pt, .int .i64 x.mrk, .int .i64 x.mode, .bool x.over, .bool x.given, .bool x.minus, .int .i64 x.arg, .int .i64 x.last, .int .i64 x.fr, .int .i64 x.to, ks, .int .i64 x.place, sv, .int .i64 x.aj8, .int .i64 x.res, .int .i64 x.nR]
theorem QJ (x : Int × ByteArray) : (pF x).length = 2 := rfl
section
variable {w0 w : World} {F : HP} {x : StM} {u z ks qs sv tv : Value} {l : List Int} {ls : List (List Int)} {us vs : List Value} {S : List (Int × ByteArray)}
theorem TS (H : V w0 w F) (g1 : jZ w0 F .i32 u l) (g2 : jZ w0 F .i32 z l) (k1 : Ht w0 F 1 ks ls.length us) (k2 : Ht w0 F 1 qs ls.length vs)
  (e1 : ∀ k, k < ls.length → jZ w0 F .i32 (us.getD k undef) (ls.getD k [])) (e2 : ∀ k, k < ls.length → jZ w0 F .i32 (vs.getD k undef) (ls.getD k []))
  (s1 : Ht w0 F 2 sv S.length (S.flatMap pF)) (s2 : Ht w0 F 2 tv S.length (S.flatMap pF)) :
  iK prog 51 #[.agg (stL x u ks sv).toArray, .agg (stL x z qs tv).toArray] w fun v' w' => v' = .bool true ∧ V w0 w' F := by
 have hb1 : (ls.length : Int) ≤ 9223372036854775807 := by obtain ⟨_, a, c, _, h1, h2, _⟩ := k1 w H; omega
 have hb2 : (S.length : Int) ≤ 9223372036854775807 := by obtain ⟨_, a, c, _, h1, h2, _⟩ := s1 w H; omega
 unfold stL
 refine nO func51 ntmps51 ?_
 refine kQ (jT (kZ (l := [_, _, _, _, _, _, _, _, _, _, _, _, _, _, _, _, _]) H O O) ?_)
 rintro _ w1 ⟨b1, rfl, H1⟩
 refine jT (kZ (l := [_, _, _, _, _, _, _, _, _, _, _, _, _, _, _, _, _]) H1 O O) ?_
 rintro _ w2 ⟨b2, rfl, H2⟩
 refine vI O (kQ (bg 0 aW O oV O (aT (yj 0 (xs := [_, _, _]) iM O oV O O (H2.f2).get.2 O) (bg 0 aW O oV O (aT (yj 0 (xs := [_, _, _]) iM O oV O O (H2).get.2 O) (fH O func53 (KX (l := l) (pt := x.pt) (mk := x.mrk) H2 (fun W HW => g1 _ (HW.right.right)) (fun W HW => g2 _ (HW.right.right))) ?_))))))
 rintro _ w3 ⟨rfl, H3⟩
 refine aT (jG O) (QW O (fun h1 => ?_))
 (try simp only [aG] at h1)
 refine bJ (bg 3 aW O ah O (bJ (dQ ay O (H3.f2).get.2 O (bJ (bg 3 aW O ah O (bJ (dQ ay O (H3).get.2 O (bJ (aT (fF O O) (kP O O (QW O (fun h2 => ?_))))))))))))
 (try simp only [aG] at h2)
 refine bJ (bg 4 aW O aN O (bJ (dQ bn O (H3.f2).get.2 O (bJ (bg 4 aW O aN O (bJ (dQ bn O (H3).get.2 O (bJ (aT (LG bn O O) (kP O O (QW O (fun h3 => ?_))))))))))))
 (try simp only [aG] at h3)
 refine bJ (bg 5 aW O aN O (bJ (dQ bn O (H3.f2).get.2 O (bJ (bg 5 aW O aN O (bJ (dQ bn O (H3).get.2 O (bJ (aT (LG bn O O) (kP O O (QW O (fun h4 => ?_))))))))))))
 (try simp only [aG] at h4)
 refine bJ (bg 6 aW O aN O (bJ (dQ bn O (H3.f2).get.2 O (bJ (bg 6 aW O aN O (bJ (dQ bn O (H3).get.2 O (bJ (aT (LG bn O O) (kP O O (QW O (fun h5 => ?_))))))))))))
 (try simp only [aG] at h5)
 refine bJ (bg 7 aW O ah O (bJ (dQ ay O (H3.f2).get.2 O (bJ (bg 7 aW O ah O (bJ (dQ ay O (H3).get.2 O (bJ (aT (fF O O) (kP O O (QW O (fun h6 => ?_))))))))))))
 (try simp only [aG] at h6)
 refine bJ (bg 8 aW O ah O (bJ (dQ ay O (H3.f2).get.2 O (bJ (bg 8 aW O ah O (bJ (dQ ay O (H3).get.2 O (bJ (aT (fF O O) (kP O O (QW O (fun h7 => ?_))))))))))))
 (try simp only [aG] at h7)
 refine bJ (bg 9 aW O ah O (bJ (dQ ay O (H3.f2).get.2 O (bJ (bg 9 aW O ah O (bJ (dQ ay O (H3).get.2 O (bJ (aT (fF O O) (kP O O (QW O (fun h8 => ?_))))))))))))
 (try simp only [aG] at h8)
 refine bJ (bg 10 aW O ah O (bJ (dQ ay O (H3.f2).get.2 O (bJ (bg 10 aW O ah O (bJ (dQ ay O (H3).get.2 O (bJ (aT (fF O O) (kP O O (QW O (fun h9 => ?_))))))))))))
 (try simp only [aG] at h9)
 refine bJ (bg 11 aW O gV O (bJ (dQ bF O (H3.f2).get.2 O (bJ (aT (fV (k1 _ (H3.right.right)) bF O) (bJ (bg 11 aW O gV O (bJ (dQ bF O (H3).get.2 O (bJ (aT (fV (k2 _ (H3.right.right)) bF O) (bJ (aT (fF O O) (kP O O (iR (Kq O (fun h10 => ?_)))))))))))))))))
 (try simp only [aG] at h10)
 refine gX (aI (kG O (bK ?_)))
 refine jh [(2, _), (3, _)] (fun (k : Nat) => [(5, .int .i64 (k : Int))]) (fun (k : Nat) W => k ≤ ls.length ∧ V w0 W (gU b1 (.cells (stL x u ks sv).toArray 75 (0, 0)) • gU b2 (.cells (stL x z qs tv).toArray 75 (0, 0)) • F)) (fun (k : Nat) => ls.length - k) (0) vV rJ ⟨by omega, H3.f2⟩ ?_
 rintro k w4 ⟨hk, HL⟩
 dsimp only [List.cons_append, List.nil_append]
 refine aI (bT O (bg 11 aW O gV O (dQ bF O (HL).get.2 O (aT (fV (k1 _ (HL.right.right)) bF O) (aT (fJ O O) (jo O (fun h11 => ?_) (fun h11 => ?_)))))))
 ·(try simp only [aG] at h11)
  have hkl : k < ls.length := by have h9 := h11; omega
  refine gX (aI (bK (aI ?_)))
  have ada := HL.drew
  have J5 := V.kp (ada.f2.f2)
  refine tH [1, 4, 6, 9] J5 O (eP 0 O J5 11 aW O gV O (iD 1 O J5 (fun W hW => jk bF O ((Kp.h hW)).get.2 O) (fM 2 O J5 O ?_)))
  obtain ⟨bks, oks, cks, eks⟩ := Rd.qX (k1 _ (ada.right.right)) (by omega)
  cases eks
  refine iE 3 O J5 (fun _ => dP bF bI O O (by omega)) ?_
  refine iD 4 O J5 (fun W hW => fB (dG aB O) O (by first | exact Rd.yc (k1 _ ((Kp.h hW).right.right)) (by omega) | exact Rd.I8 (k1 _ ((Kp.h hW).right.right)) (by omega) | exact Rd.Ib (k1 _ ((Kp.h hW).right.right)) (by omega))) ?_
  refine QT (fun al4 aiL => ?_)
  refine eP 5 O J5 11 aW O gV O (iD 6 O J5 (fun W hW => jk bF O ((Kp.h hW).f2).get.2 O) (fM 7 O J5 O ?_))
  obtain ⟨bqs, oqs, cqs, eqs⟩ := Rd.qX (k2 _ (ada.right.right)) (by omega)
  cases eqs
  refine iE 8 O J5 (fun _ => dP bF bI O O (by omega)) ?_
  refine iD 9 O J5 (fun W hW => fB (dG aB O) O (by first | exact Rd.yc (k2 _ ((Kp.h hW).right.right)) (by omega) | exact Rd.I8 (k2 _ ((Kp.h hW).right.right)) (by omega) | exact Rd.Ib (k2 _ ((Kp.h hW).right.right)) (by omega))) ?_
  refine QT (fun al5 aiM => ?_)
  refine lC 10 O (qW O func121 (Nb _ _ _ _ _ ((by rw [aiL]; exact e1 _ (by omega) _ (ada.right.right))) ((by rw [aiM]; exact e2 _ (by omega) _ (ada.right.right))))) ?_
  rintro _ w7 ⟨rfl, hD7⟩
  have HD7 := ada.yg hD7
  have Ak := V.kp (HD7.f2.f2)
  refine dX Ak (by kernel_rfl) ?_
  refine iE 11 O Ak (fun _ => jG O) (oH (aZ (Kq O (fun h12 => ?_))))
  (try simp only [aG] at h12)
  refine eG (aS (aZ (aF (cO O (aT (gY O O (by omega)) (lg O (dJ ?_)))))))
  refine fG (k + 1) ?_ ?_ ?_ ?_
  ·exact rJ
  ·exact vV
  ·(try dsimp only)
   first | done | exact ⟨by omega, HD7.f2.f2⟩
  ·(try dsimp only); omega
 ·(try simp only [aG] at h11)
  refine iZ (bC (bC (dK (aZ (aI (kQ (bg 12 aW O ah O (dQ ay O (HL).get.2 O (bg 12 aW O ah O (dQ ay O (HL.f2).get.2 O (aT (fF O O) (QW O (fun h13 => ?_)))))))))))))
  (try simp only [aG] at h13)
  refine bJ (bg 13 aW O sizeOf73 O (bJ (dQ iy O (HL).get.2 O (bJ (aT (fV (s1 _ (HL.right.right)) iy O) (bJ (bg 13 aW O sizeOf73 O (bJ (dQ iy O (HL.f2).get.2 O (bJ (aT (fV (s2 _ (HL.right.right)) iy O) (bJ (aT (fF O O) (kP O O (QW O (fun h14 => ?_))))))))))))))))
  (try simp only [aG] at h14)
  refine bJ (bg 14 aW O ah O (bJ (dQ ay O (HL).get.2 O (bJ (bg 14 aW O ah O (bJ (dQ ay O (HL.f2).get.2 O (bJ (aT (fF O O) (kP O O (QW O (fun h15 => ?_))))))))))))
  (try simp only [aG] at h15)
  refine bJ (bg 15 aW O ah O (bJ (dQ ay O (HL).get.2 O (bJ (bg 15 aW O ah O (bJ (dQ ay O (HL.f2).get.2 O (bJ (aT (fF O O) (kP O O (QW O (fun h16 => ?_))))))))))))
  (try simp only [aG] at h16)
  refine bJ (bg 16 aW O nC O (bJ (dQ nD O (HL).get.2 O (bJ (bg 16 aW O nC O (bJ (dQ nD O (HL.f2).get.2 O (bJ (aT (fF O O) (kP O O (iR (Kq O (fun h17 => ?_)))))))))))))
  (try simp only [aG] at h17)
  refine gX (aI (kG O (bK ?_)))
  refine jh [(2, _), (3, _)] (fun (k2 : Nat) => [(6, .int .i64 (k2 : Int))]) (fun (k2 : Nat) W => k2 ≤ S.length ∧ V w0 W (gU b1 (.cells (stL x u ks sv).toArray 75 (0, 0)) • gU b2 (.cells (stL x z qs tv).toArray 75 (0, 0)) • F)) (fun (k2 : Nat) => S.length - k2) (0) vV rJ ⟨by omega, HL.f2.f2⟩ ?_
  rintro k2 w8 ⟨hk2, HL2⟩
  dsimp only [List.cons_append, List.nil_append]
  refine aI (bT O (bg 13 aW O sizeOf73 O (dQ iy O (HL2).get.2 O (aT (fV (s1 _ (HL2.right.right)) iy O) (aT (fJ O O) (jo O (fun h18 => ?_) (fun h18 => ?_)))))))
  ·(try simp only [aG] at h18)
   have hkl2 : k2 < S.length := by have h9 := h18; omega
   refine gX (aI (bK (aI ?_)))
   have ab6 := HL2.drew
   have DY := V.kp (ab6.f2.f2)
   refine tH [1, 4, 6, 9] DY O (eP 0 O DY 13 aW O sizeOf73 O (iD 1 O DY (fun W hW => jk iy O ((Kp.h hW)).get.2 O) (fM 2 O DY O ?_)))
   obtain ⟨bsv, osv, csv, esv⟩ := Rd.qX (s1 _ (ab6.right.right)) (by omega)
   cases esv
   refine iE 3 O DY (fun _ => dP iy rH O O (by omega)) (iD 4 O DY (fun W hW => mF (ys := [_, _]) (s1 _ ((Kp.h hW).right.right)) (by omega) qV O rH O (mY QJ (by omega) default) O) (eP 5 O DY 13 aW O sizeOf73 O (iD 6 O DY (fun W hW => jk iy O ((Kp.h hW).f2).get.2 O) (fM 7 O DY O ?_))))
   obtain ⟨btv, otv, ctv, etv⟩ := Rd.qX (s2 _ (ab6.right.right)) (by omega)
   cases etv
   refine iE 8 O DY (fun _ => dP iy rH O O (by omega)) (iD 9 O DY (fun W hW => mF (ys := [_, _]) (s2 _ ((Kp.h hW).right.right)) (by omega) qV O rH O (mY QJ (by omega) default) O) (iE 10 O DY (fun _ => NY O O) (oH (aZ (Kq O (fun h19 => ?_))))))
   (try simp only [aG] at h19)
   refine eG (aS (aZ (aF (cO O (aT (gY O O (by omega)) (lg O (dJ ?_)))))))
   refine fG (k2 + 1) ?_ ?_ ?_ ?_
   ·exact rJ
   ·exact vV
   ·(try dsimp only)
    first | done | exact ⟨by omega, ab6.f2.f2⟩
   ·(try dsimp only); omega
  ·(try simp only [aG] at h18)
   refine iZ (bC (bC (dK (aZ (jE O (dO results51 O ?_))))))
   exact ⟨O, HL2.right.right⟩
end
def ZB : aX := ((aX.new [] 1 10).dA.qM [97]).nZ 0
theorem aiN : ZB.c.L = [97] := by rfl
theorem adb : (utf8 ZB.c.L).toList = (ByteArray.mk #[97]).toList := by rw [aiN]; exact congrArg ByteArray.toList (by rfl)
theorem ZC : ZB.JG = 1 := by rfl
theorem afu : ZB.arg = -1 := by rfl
theorem ade : ZB.yx = 3 := by rfl
section
variable {w0 w : World} {F : HP}
theorem ZE (H : V w0 w F) : iK prog 5 #[] w fun v w' => v = .bool true ∧ V w0 w' F := by
  refine ahs func5 ntmps5 ?_
  refine kG O (kQ (fH O func19 (Ig H (by omega)) ?_))
  rintro _ w1 ⟨p1, rfl, H1⟩
  refine cO O (xY O O (xY O O (lg O (iU O (bT O (fH O func17 (S9 H1) ?_))))))
  rintro _ w2 ⟨e2, rfl, H2⟩
  refine cO O (xY O O (xY O O (lg O (vI O (bT O (aT (fF O O) (QW O (fun h1 => ?_))))))))
  (try simp only [aG] at h1)
  refine bJ (cO O (bJ (aT (fF O O) (kP O O (QW O (fun h2 => ?_))))))
  (try simp only [aG] at h2)
  refine bJ (cO O (bJ (aT (oQ yP O O) (kP O O (iR (Kq O (fun h3 => ?_)))))))
  (try simp only [aG] at h3)
  refine gX (bT O (fH O func6 (Eh H2) ?_))
  rintro _ w3 ⟨rfl, H3⟩
  refine qG O (jT (jV (k := .i32) (l := [97]) H3 aB jU zeroValue21 O O O (by decide)) ?_)
  rintro l4 w4 H4
  refine fH O func20 (Px H4.f2 (fun W HW => (HW).aJ) (by simp)) ?_
  rintro _ w5 ⟨rfl, H5⟩
  refine qG O (fH O func9 (E8 H5) ?_)
  rintro _ w6 ⟨rfl, H6⟩
  refine qG O (fH O func21 (NR H6) ?_)
  rintro _ w7 ⟨u7, ks7, us7, sv7, rfl, H7⟩
  refine jT (iI (l := [_, _, _, _, _, _, _, _, _, _, _, _, _, _, _, _, _]) H7 kL O) ?_
  rintro _ w8 ⟨b8, rfl, H8⟩
  refine aH (dR 0 (l' := [_, _, _, _, _, _, _, _, _, _, _, _, _, _, _, _, _]) (us := [_, _, _, _, _, _, _, _, _, _, _, _, _, _, _, _, _]) H8 oI O O O (bD (by first | rfl | exact Rd.one ((H8.f2).aJ)) (aP (aP (aP (aP (aP (aP (aP (aP (aP (aP (bD (by first | rfl | exact Rd.one ((H8.f3).aJ)) (aP (bD (by first | rfl | exact Rd.one ((H8.f5).aJ)) (aP (aP (aP bW))))))))))))))))) O O) ?_
  rintro _ w9 H9
  refine zk7 (bg 0 aW O oV O (bg 0 iM O bI O (dQ aB O (H9).get.2 O (aT (XQ aB iW fO O ((H9.f2).aJ)) (aT (acb O O) (nS O (fun h4 => ?_) (fun h => by exfalso; (try simp only [aG] at h); exact h adb)))))))
  (try simp only [aG] at h4)
  refine bJ (bg 14 aW O ah O (bJ (dQ ay O (H9).get.2 O (bJ (aT (fA O O) (mQ O O (nS O (fun h5 => ?_) (fun h => by exfalso; (try simp only [aG] at h); exact h ZC))))))))
  (try simp only [aG] at h5)
  refine bJ (bg 7 aW O ah O (bJ (dQ ay O (H9).get.2 O (bJ (aT (fA O O) (mQ O O (nS O (fun h6 => ?_) (fun h => by exfalso; (try simp only [aG] at h); exact h afu))))))))
  (try simp only [aG] at h6)
  refine bJ (bg 8 aW O ah O (bJ (dQ ay O (H9).get.2 O (bJ ?_))))
  refine aT (Es (fA O O) (by exact decide_eq_true ade)) ?_
  refine mQ O O (iJ O (dO results5 O ?_))
  exact ⟨O, H9.right.right.right.right.right.right.right.right⟩
end
end Go.Proofs.YtnhhmieghbfalaaGreatDoor
end
section
namespace Go.Proofs.YtnhhmieghbfalaaGreatDoor
open Go.RowKit

structure CZ where
  v : Value
  parts : List yB
  err : Int
instance : Inhabited CZ := ⟨⟨.slice none 0 0, [], 0⟩⟩
def CZ.enc (c : CZ) : List Value := [c.v, .int .i64 c.err]
theorem CZ.Ah (c : CZ) : c.enc.length = 2 := rfl
def CZ.m (c : CZ) : aiG := ⟨c.parts.map yB.m, c.err⟩
def CZ.Reads (W : World) (c : CZ) : Prop := Rd W 5 c.v c.parts.length (c.parts.flatMap yB.enc) ∧ (∀ k, k < c.parts.length → (c.parts.getD k default).Reads W) ∧ c.parts.length ≤ 134217728
theorem Ai {α β : Type} (f : β → α → β) (s : β) (l : List α) (d : α) {k : Nat} (h : k < l.length) : (l.take (k + 1)).foldl f s = f ((l.take k).foldl f s) (l.getD k d) := by
  rw [List.take_succ_eq_append_getElem h, List.foldl_append, List.getD_eq_getElem?_getD, List.getElem?_eq_getElem h]; rfl
def aX.aj9 (s : aX) (p : yB) : aX := s.Zz p.m
def aX.am9 (s : aX) (c : CZ) : aX := (c.parts.foldl aX.aj9 s.dA).nZ c.err
def ana (cs : List CZ) (k : Nat) : Nat := ((cs.take k).map fun c => c.parts.length).sum
def aX.akb (s : aX) (p : yB) : aX := s.ahh p.m
def aX.anb (s : aX) (c : CZ) : aX := (c.parts.foldl aX.akb s.dA).nZ c.err
def aX.al6 (s : aX) (p : yB) : aX := if p.kd < 20 then s.ahh p.m else s
def Gm (ps : List yB) : Prop := ∀ p ∈ ps, jd p.text
section
variable {s t : aX} {ps : List yB} {cs : List CZ}
theorem PS (h : t.inn = true) (err : Int) : (t.nZ err).inn = false := by
  by_cases he : err = 0
  · rw [he]; exact JZ t h
  · unfold aX.nZ; rw [if_pos h, if_neg he]; rfl
def akc (s : aX) : StM := ⟨s.c.pt, s.c.mark, s.c.mode, s.c.over, s.given, s.minus, s.arg, s.yx, s.Ox, s.Qi, s.c.place, s.JG, s.c.res, s.nR⟩
end
end Go.Proofs.YtnhhmieghbfalaaGreatDoor
end
