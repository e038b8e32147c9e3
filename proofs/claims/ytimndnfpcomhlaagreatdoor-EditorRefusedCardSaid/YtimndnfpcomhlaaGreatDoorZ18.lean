import Derived.Test.YtimndnfpcomhlaaGreatDoorZ4
import Derived.Test.YtimndnfpcomhlaaGreatDoorZ15
import Derived.Test.YtimndnfpcomhlaaGreatDoorZ17
import Derived.Test.YtimndnfpcomhlaaGreatDoorZ16
import Derived.Laws.StructEq
import Derived.Test.YtimndnfpcomhlaaGreatDoorZ6
import Derived.Test.YtimndnfpcomhlaaGreatDoorZ9
import Derived.Test.YtimndnfpcomhlaaGreatDoorZ2
set_option linter.unusedSimpArgs false
set_option linter.unusedVariables false
/- Texts of mine, joined, their names in short: EUndoM UBackM EdR32 ERefM ESame Ref7 Ref7b ESame2 EStM ELive FieldVal LawEUndoes ERefM2. -/
section
namespace Go.Proofs.YtimndnfpcomhlaaGreatDoor
open Go.RowKit
def bk (L : List Int) (xs : List gV) : List Int := (xs.reverse.map vV).foldl (fun L x => zf L x.1 x.2.1 x.2.2) L
theorem Yh (L : List Int) (xs : List gV) (x : gV) : bk L (xs ++ [x]) = bk (zf L x.1 x.2.2 x.2.1) xs := by
  unfold bk; rw [List.reverse_append]; rfl
theorem Ua (L : List Int) (xs ys : List gV) : bk L (xs ++ ys) = bk (bk L ys) xs := by
  unfold bk; rw [List.reverse_append, List.map_append, List.foldl_append]
theorem OJ (L : List Int) (p m : Int) (l : List gV) : (aY.apps (L, p, m) l).1 = l.foldl (fun L x => zf L x.1 x.2.1 x.2.2) L := by
  unfold aY.apps
  induction l generalizing L p m with
  | nil => rfl
  | cons x l ih => exact ih _ _ _
theorem OL {L : List Int} {i j : Int} {l : List Int} (h : L.length ≤ 1024) : (kL L i j l).length ≤ 1024 := by
  unfold kL; split
  · rename_i hE
    unfold kC at hE
    split at hE
    · simp at hE
    · split at hE
      · simp at hE
      · simp; omega
  · exact h
theorem Wx {L : List Int} {a : Int} {dl il : List Int} (h : L.length ≤ 1024) : (zf L a dl il).length ≤ 1024 := by
  unfold zf; split
  · exact OL h
  · exact h
theorem Z7 {L : List Int} (h : L.length ≤ 1024) (xs : List gV) : (bk L xs).length ≤ 1024 := by
  unfold bk
  generalize xs.reverse.map vV = l
  induction l generalizing L with
  | nil => exact h
  | cons x l ih => exact ih (Wx h)
theorem Ub {L : List Int} {i j : Int} {l : List Int} (h : L.length ≤ 1024) (hE : kC L i j l = 0) : zf (kL L i j l) (qK L i j l) (lq L i j l) (lg L i j l) = L := by
  have hb : 0 ≤ i ∧ i ≤ j ∧ j ≤ L.length := by
    unfold kC at hE
    split at hE
    · simp at hE
    · omega
  unfold kL qK lq lg
  rw [if_pos hE, if_pos hE, if_pos hE, if_pos hE]
  have hta : (L.take i.toNat).length = i.toNat := by simp; omega
  have hdl : ((L.drop i.toNat).take (j - i).toNat).length = (j - i).toNat := by simp; omega
  have e1 : (L.take i.toNat ++ l ++ L.drop j.toNat).drop i.toNat = l ++ L.drop j.toNat := by rw [List.append_assoc]; exact List.drop_left' hta
  have hf : Az (L.take i.toNat ++ l ++ L.drop j.toNat) i l = true := by
    unfold Az; rw [e1, List.take_left]; simp; omega
  have hr : kC (L.take i.toNat ++ l ++ L.drop j.toNat) i (i + l.length) ((L.drop i.toNat).take (j - i).toNat) = 0 := by
    unfold kC; rw [if_neg (by simp; omega), if_neg (by simp; omega)]
  have ha : zZ (L.take i.toNat ++ l ++ L.drop j.toNat) i l ((L.drop i.toNat).take (j - i).toNat) = 0 := by
    unfold zZ; rw [if_neg (by simp; omega), hf]; exact hr
  unfold zf
  rw [if_pos ha]
  unfold kL
  rw [if_pos hr, show (i + (l.length : Int)).toNat = i.toNat + l.length from by omega, ← List.drop_drop, e1, List.drop_left]
  rw [List.append_assoc, List.append_assoc, List.take_left' hta]
  rw [show L.drop j.toNat = (L.drop i.toNat).drop (j - i).toNat from by rw [List.drop_drop]; congr 1; omega, List.take_append_drop, List.take_append_drop]
structure UI (L : List Int) (G : List (List gV)) (N : List gV) (A : List Int) (n : Nat) : Prop where
  len : L.length ≤ 1024
  ne : ∀ g ∈ G, g ≠ []
  bk : bk L (G.flatten ++ N) = A
  tot : gI G N ≤ n
structure FN (s : aY) (A : List Int) (n : Nat) : Prop where
  inn : s.inn = true
  now : UI s.c.L s.here s.put A n
  was : UI s.was.L (s.was.un s.was.place) [] A n
structure En (s : aY) (A : List Int) (n : Nat) : Prop where
  inn : s.inn = false
  put : s.put = []
  now : UI s.c.L s.here [] A n
section
variable {s t : aY} {A L : List Int} {n m : Nat} {G : List (List gV)} {N : List gV}
theorem UI.more (h : UI L G N A n) (hm : n ≤ m) : UI L G N A m := ⟨h.len, h.ne, h.bk, Nat.le_trans h.tot hm⟩
theorem FN.more (h : FN s A n) (hm : n ≤ m) : FN s A m := ⟨h.inn, h.now.more hm, h.was.more hm⟩
theorem FN.same (h : FN s A n) (h1 : t.inn = s.inn) (h2 : t.c.L = s.c.L) (h3 : t.here = s.here) (h4 : t.put = s.put) (h5 : t.was = s.was) : FN t A n := ⟨h1.trans h.inn, by rw [h2, h3, h4]; exact h.now, by rw [h5]; exact h.was⟩
theorem En.begin (h : En s A n) : FN s.bZ A n := by
  have e : s.bZ = { s with inn := true, was := s.c, cls := 0, killed := false, lW := false, argues := false, whole := true, put := [] } := by unfold aY.bZ; rw [if_neg (by rw [h.inn]; decide)]
  rw [e]
  exact ⟨rfl, h.now, h.now⟩
theorem QB (G : List (List gV)) (N : List gV) (x : gV) : gI G (N ++ [x]) = gI G N + 1 := by unfold gI; simp; omega
theorem FN.OM (h : FN s A n) (hn : n < 16384) (i j : Int) (l : List Int) : FN (s.iw i j l) A (n + 1) := by
  obtain ⟨h1, h2, h3⟩ := h
  have hlen := h2.len
  unfold aY.iw
  rw [if_pos h1]
  by_cases hE : kC s.c.L i j l = 0
  · have hb := Ub hlen hE
    unfold aY.nO
    split
    · rename_i h0
      have hd : lg s.c.L i j l = [] ∧ lq s.c.L i j l = [] := ⟨List.length_eq_zero_iff.1 (by dsimp only at h0; omega), List.length_eq_zero_iff.1 (by dsimp only at h0; omega)⟩
      have hLs : kL s.c.L i j l = s.c.L := by
        have hb2 : 0 ≤ i ∧ i ≤ j ∧ j ≤ s.c.L.length := by
          unfold kC at hE
          split at hE
          · simp at hE
          · omega
        obtain ⟨d1, d2⟩ := hd
        unfold lg at d1; unfold lq at d2
        rw [if_pos hE] at d1 d2
        have d3 := congrArg List.length d1
        simp at d3
        have hij : i = j := by omega
        subst hij d2
        unfold kL; rw [if_pos hE]; simp
      exact ⟨h1, by show UI (kL s.c.L i j l) s.here s.put A (n + 1); rw [hLs]; exact h2.more (by omega), h3.more (by omega)⟩
    · rw [if_neg (by show ¬ 16384 ≤ gI s.here s.put; have := h2.tot; omega)]
      refine ⟨h1, ⟨OL hlen, h2.ne, ?_, ?_⟩, h3.more (by omega)⟩
      · show bk (kL s.c.L i j l) (s.here.flatten ++ (s.put ++ [_])) = A
        rw [← List.append_assoc, Yh]
        show bk (zf (kL s.c.L i j l) (qK s.c.L i j l) (lq s.c.L i j l) (lg s.c.L i j l)) _ = A
        rw [hb]; exact h2.bk
      · show gI s.here (s.put ++ [_]) ≤ n + 1
        rw [QB]; have := h2.tot; omega
  · have hL : kL s.c.L i j l = s.c.L := by unfold kL; rw [if_neg hE]
    have hx : (lg s.c.L i j l).length + (lq s.c.L i j l).length = 0 := by unfold lg lq; rw [if_neg hE, if_neg hE]; rfl
    unfold aY.nO
    rw [if_pos hx]
    exact ⟨h1, by show UI (kL s.c.L i j l) s.here s.put A (n + 1); rw [hL]; exact h2.more (by omega), h3.more (by omega)⟩
theorem FN.copy (h : FN s A n) (i j : Int) (b : Bool) : FN (s.qN i j b) A n := by
  unfold aY.qN; split
  · exact h.same rfl rfl rfl rfl rfl
  · exact h
theorem Ba (s : aY) (on : Bool) : (s.jw on).flatten = s.here.flatten ++ s.put := by
  unfold aY.jw
  split
  · rename_i h; rw [h, List.append_nil]
  · split
    · rcases List.eq_nil_or_concat s.here with hc | ⟨hs, g, hc⟩
      · rw [hc]; simp
      · rw [List.concat_eq_append] at hc; rw [hc]; simp
    · simp
theorem Uc {s : aY} (on : Bool) (h : ∀ g ∈ s.here, g ≠ []) : ∀ g ∈ s.jw on, g ≠ [] := by
  unfold aY.jw
  split
  · exact h
  · rename_i hp
    split
    · rcases List.eq_nil_or_concat s.here with hc | ⟨hs, g, hc⟩
      · rw [hc]; simpa using hp
      · rw [List.concat_eq_append] at hc; rw [hc] at h ⊢
        simp only [List.getLast?_append, List.getLast?_singleton, Option.some_or, List.dropLast_concat]
        intro g' hg
        rcases List.mem_append.1 hg with hg | hg
        · exact h g' (List.mem_append.2 (.inl hg))
        · rw [List.mem_singleton.1 hg]; simp [hp]
    · intro g hg
      rcases List.mem_append.1 hg with hg | hg
      · exact h g hg
      · rw [List.mem_singleton.1 hg]; exact hp
theorem KH (G : List (List gV)) (N : List gV) : gI G N = (G.flatten ++ N).length := by unfold gI; rw [List.length_append, List.length_flatten]
theorem UI.flush {s : aY} (h : UI L s.here s.put A n) (on : Bool) : UI L (s.jw on) [] A n := by
  refine ⟨h.len, Uc on h.ne, by rw [List.append_nil, Ba]; exact h.bk, ?_⟩
  rw [KH, List.append_nil, Ba, ← KH]; exact h.tot
theorem OO (s : aY) (on : Bool) : (s.cO on).here = s.jw on ∧ (s.cO on).put = [] ∧ (s.cO on).c.L = s.c.L ∧ (s.cO on).was = s.was := by
  unfold aY.cO
  split
  · rename_i h
    refine ⟨?_, h, rfl, rfl⟩
    unfold aY.jw; rw [if_pos h]
  · exact ⟨gZ _ _ _, rfl, rfl, rfl⟩
theorem UI.drop (h : UI L G [] A n) (hG : G ≠ []) : UI (Go.Proofs.YtimndnfpcomhlaaGreatDoor.bk L (G.getLastD [])) G.dropLast [] A n := by
  rcases List.eq_nil_or_concat G with hc | ⟨hs, g, hc⟩
  · exact absurd hc hG
  · rw [List.concat_eq_append] at hc; subst hc
    obtain ⟨h1, h2, h3, h4⟩ := h
    rw [show (hs ++ [g]).getLastD [] = g from by simp, List.dropLast_concat]
    refine ⟨Z7 h1 _, fun g' hg => h2 g' (List.mem_append.2 (.inl hg)), ?_, ?_⟩
    · rw [List.append_nil] at h3 ⊢
      rw [← h3, List.flatten_append, Ua]; simp
    · unfold gI at *; simp at *; omega
theorem FN.Ye (h : FN s A n) : FN s.oU A n := by
  obtain ⟨h1, h2, h3⟩ := h
  obtain ⟨f1, f2, f3, f4⟩ := OO s false
  have hf : UI (s.cO false).c.L (s.cO false).here (s.cO false).put A n := by rw [f1, f2, f3]; exact h2.flush false
  unfold aY.oU
  rw [if_pos h1]
  dsimp only
  split
  · exact ⟨(IL s false).trans h1, hf, by rw [f4]; exact h3⟩
  · rename_i hG
    rw [f2] at hf
    refine ⟨(IL s false).trans h1, ?_, by show UI (s.cO false).was.L _ [] A n; rw [show (((s.cO false).kT (s.cO false).here.dropLast).Ik (((s.cO false).here.getLastD []).reverse.map vV)).zy.was = s.was from f4, f4]; exact h3⟩
    have hd := hf.drop hG
    show UI (aY.apps ((s.cO false).c.L, (s.cO false).c.pt, (s.cO false).c.mark) (((s.cO false).here.getLastD []).reverse.map vV)).1 (vF (s.cO false).c.un (s.cO false).c.place (s.cO false).here.dropLast (s.cO false).c.place) (s.cO false).put A n
    rw [OJ, gZ, f2]
    exact hd
theorem FN.edit (h : FN s A n) (hn : n < 16384) (p : CO) : FN (s.edit p) A (n + 1) := by
  have hm : FN s A (n + 1) := h.more (by omega)
  unfold aY.edit
  by_cases k0 : p.kd = 0
  · rw [if_pos k0]
    unfold aY.mX; rw [if_pos h.inn]; dsimp only
    by_cases hc : s.Ea p.text = 0 ∧ s.cls = 0
    · rw [if_pos hc]; exact (h.OM hn _ _ _).same rfl rfl rfl rfl rfl
    · rw [if_neg hc]; exact h.OM hn _ _ _
  rw [if_neg k0]
  by_cases k1 : p.kd = 1
  · rw [if_pos k1]
    exact h.OM hn _ _ _
  rw [if_neg k1]
  by_cases k2 : p.kd = 2
  · rw [if_pos k2]
    exact h.OM hn _ _ _
  rw [if_neg k2]
  by_cases k3 : p.kd = 3
  · rw [if_pos k3]
    exact h.OM hn _ _ _
  rw [if_neg k3]
  by_cases k4 : p.kd = 4
  · rw [if_pos k4]
    unfold aY.wC
    by_cases hc : s.qM p.a p.b p.back = 0
    · rw [if_pos hc]; exact (h.copy _ _ _).OM hn _ _ _
    · rw [if_neg hc]; exact hm
  rw [if_neg k4]
  by_cases k5 : p.kd = 5
  · rw [if_pos k5]
    exact hm.copy _ _ _
  rw [if_neg k5]
  by_cases k6 : p.kd = 6
  · rw [if_pos k6]
    unfold aY.xE
    by_cases hc : s.Ii = 0
    · rw [if_pos hc]; exact (h.OM hn s.c.pt s.c.pt s.top).same rfl rfl rfl rfl rfl
    · rw [if_neg hc]; exact hm
  rw [if_neg k6]
  by_cases k7 : p.kd = 7
  · rw [if_pos k7]
    unfold aY.Ad
    by_cases hc : s.Ij p.a = 0
    · rw [if_pos hc]; exact (h.OM hn s.c.fr s.c.to (s.AQ p.a)).same rfl rfl rfl rfl rfl
    · rw [if_neg hc]; exact hm
  rw [if_neg k7]
  by_cases k8 : p.kd = 8
  · rw [if_pos k8]
    unfold aY.yQ; rw [if_pos h.inn]; exact hm.same rfl rfl rfl rfl rfl
  rw [if_neg k8]
  by_cases k9 : p.kd = 9
  · rw [if_pos k9]
    unfold aY.Ci; rw [if_pos h.inn]; exact hm.same rfl rfl rfl rfl rfl
  rw [if_neg k9]
  by_cases k10 : p.kd = 10
  · rw [if_pos k10]
    unfold aY.Cj; rw [if_pos h.inn]; exact hm.same rfl rfl rfl rfl rfl
  rw [if_neg k10]
  by_cases k11 : p.kd = 11
  · rw [if_pos k11]
    exact hm.Ye
  rw [if_neg k11]
  by_cases k17 : p.kd = 17
  · rw [if_pos k17]
    unfold aY.AV
    by_cases hc : s.AU p.a = 0
    · rw [if_pos hc]; exact hm.same rfl rfl rfl rfl rfl
    · rw [if_neg hc]; exact hm
  rw [if_neg k17]
  exact hm
theorem Wy (u : aY) (h : u.inn = true) : (u.jP 0).put = [] := by
  by_cases ha : u.argues = true <;> by_cases hp : u.put = [] <;> by_cases hc : u.cls = 2 <;> simp [aY.jP, aY.ng, aY.je, aY.cO, aY.xC, aY.kT, aY.jw, aY.here, gZ, ha, hp, hc, h]
theorem FN.end_ (h : FN s A n) (err : Int) : En (s.jP err) A n := by
  by_cases he : err = 0
  · subst he
    refine ⟨AZ _ h.inn, Wy _ h.inn, ?_⟩
    have e1 : (s.jP 0).here = s.jw (s.typed && s.c.run) := Gn s h.inn
    rw [IK _ h.inn, e1]
    exact h.now.flush _
  · unfold aY.jP
    rw [if_pos h.inn, if_neg he]
    exact ⟨rfl, rfl, h.was⟩
structure Z8 where
  parts : List CO
  err : Int
def aY.OQ (s : aY) (p : CO) : aY := if p.kd ≠ 13 ∧ p.kd < 20 then s.edit p else s
def aY.adL (s : aY) (c : Z8) : aY := (c.parts.foldl aY.OQ s.bZ).jP c.err
theorem FN.parts (l : List CO) : ∀ {s : aY} {n : Nat}, FN s A n → n + l.length ≤ 16384 → FN (l.foldl aY.OQ s) A (n + l.length) := by
  induction l with
  | nil => intro s n h _; exact h
  | cons p l ih =>
    intro s n h hn
    rw [List.length_cons] at hn ⊢
    have h1 : FN (s.OQ p) A (n + 1) := by
      unfold aY.OQ; split
      · exact h.edit (by omega) p
      · exact h.more (by omega)
    have := ih h1 (by omega)
    rwa [show n + 1 + l.length = n + (l.length + 1) from by omega] at this
def adM (cs : List Z8) : Nat := (cs.map fun c => c.parts.length).sum
def IU (s : aY) : aY := s.bZ.oU.jP 0
def KI (s : aY) : Nat → aY
  | 0 => s
  | k + 1 => IU (KI s k)
theorem En.WA (h : En s A n) : s.bZ.here = s.here ∧ s.bZ.put = [] := by
  have e : s.bZ = { s with inn := true, was := s.c, cls := 0, killed := false, lW := false, argues := false, whole := true, put := [] } := by unfold aY.bZ; rw [if_neg (by rw [h.inn]; decide)]
  rw [e]; exact ⟨rfl, rfl⟩
theorem En.abu (h : En s A n) (hG : s.here ≠ []) : En (IU s) A n ∧ s.bZ.uo = 0 ∧ (IU s).here = s.here.dropLast := by
  have hb := h.begin
  obtain ⟨e1, e2⟩ := h.WA
  have hf : s.bZ.cO false = s.bZ := by unfold aY.cO; rw [if_pos e2]
  refine ⟨hb.Ye.end_ 0, by unfold aY.uo; rw [if_pos hb.inn, hf, e1, if_neg hG], ?_⟩
  have hi := hb.Ye.inn
  have e3 : (IU s).here = s.bZ.oU.jw (s.bZ.oU.typed && s.bZ.oU.c.run) := Gn _ hi
  have e4 : s.bZ.oU = ((s.bZ.kT s.here.dropLast).Ik ((s.here.getLastD []).reverse.map vV)).zy := by
    unfold aY.oU; rw [if_pos hb.inn]; dsimp only; rw [hf, e1, if_neg hG]
  rw [e3, e4]
  unfold aY.jw
  rw [if_pos (by exact e2)]
  exact gZ _ _ _
theorem En.KI (h : En s A n) : ∀ k, k ≤ s.here.length → En (KI s k) A n ∧ (Go.Proofs.YtimndnfpcomhlaaGreatDoor.KI s k).here.length = s.here.length - k
  | 0, _ => ⟨h, rfl⟩
  | k + 1, hk => by
    obtain ⟨a, b⟩ := En.KI h k (by omega)
    obtain ⟨c1, c2, c3⟩ := a.abu (fun c => by rw [c] at b; simp at b; omega)
    refine ⟨c1, ?_⟩
    show (IU (Go.Proofs.YtimndnfpcomhlaaGreatDoor.KI s k)).here.length = _
    rw [c3, List.length_dropLast, b]; omega
theorem En.empty (h : En s A n) (hG : s.here = []) : s.bZ.uo = 6 ∧ s.bZ.oU = s.bZ ∧ s.bZ.aaT = s.bZ ∧ (s.bZ.jP 0).c.L = A := by
  have hb := h.begin
  obtain ⟨e1, e2⟩ := h.WA
  have hf : s.bZ.cO false = s.bZ := by unfold aY.cO; rw [if_pos e2]
  refine ⟨by unfold aY.uo; rw [if_pos hb.inn, hf, e1, if_pos hG], by unfold aY.oU; rw [if_pos hb.inn]; dsimp only; rw [hf, e1, if_pos hG], by unfold aY.aaT; rw [if_pos hb.inn]; dsimp only; rw [hf, e1, if_pos hG], ?_⟩
  have := h.now.bk
  rw [hG] at this
  rw [IK _ hb.inn, wK]
  exact this
end
end Go.Proofs.YtimndnfpcomhlaaGreatDoor
end
section
namespace Go.Proofs.YtimndnfpcomhlaaGreatDoor

theorem Ud {r : Int} : lG r = true ↔ (0 ≤ r ∧ r < 55296 ∨ 57343 < r ∧ r ≤ 1114111) := by unfold lG; rw [decide_eq_true_eq]
theorem WB {x : Int} (h0 : 0 ≤ x) : (kR x = 1 ∧ x < 128) ∨ (kR x = 2 ∧ 194 ≤ x ∧ x ≤ 223) ∨ (kR x = 3 ∧ 224 ≤ x ∧ x ≤ 239) ∨ (kR x = 4 ∧ 240 ≤ x ∧ x ≤ 244) ∨ kR x = 0 := by
  unfold kR
  by_cases h1 : x < 128
  · rw [if_pos h1]; omega
  · rw [if_neg h1]
    by_cases h2 : 194 ≤ x ∧ x ≤ 223
    · rw [if_pos h2]; omega
    · rw [if_neg h2]
      by_cases h3 : 224 ≤ x ∧ x ≤ 239
      · rw [if_pos h3]; omega
      · rw [if_neg h3]
        by_cases h4 : 240 ≤ x ∧ x ≤ 244
        · rw [if_pos h4]; omega
        · rw [if_neg h4]; omega
theorem vM {b : List Int} {k j : Nat} (h : uY b k = true) (hj : j < k) : yC b j = true := by
  have := GN h (m := j + 1) (by omega)
  simp only [uY, Bool.and_eq_true] at this
  exact this.2
theorem wQ {b : List Int} {j : Nat} (h : yC b j = true) (hj : 0 < j) : 128 ≤ b.getD j 0 ∧ b.getD j 0 ≤ 191 := by
  unfold yC at h
  simp only [Bool.or_eq_true, Bool.and_eq_true, decide_eq_true_eq] at h
  rcases h with h | h
  · simp at h; omega
  · exact h.1
theorem OT {b : List Int} (h : yC b 1 = true) : Jf (b.getD 0 0) ≤ b.getD 1 0 ∧ b.getD 1 0 ≤ Ar (b.getD 0 0) := by
  unfold yC at h
  simp only [Bool.or_eq_true, Bool.and_eq_true, decide_eq_true_eq] at h
  rcases h with h | ⟨_, h | h⟩
  · simp at h
  · simp at h
  · exact h
theorem QC {b : List Int} (h : wW b = true) : (oQ b).2 = kR (b.getD 0 0) ∧ uY b (kR (b.getD 0 0)) = true := by
  have hn := CZ h
  have h2 := EF hn.2.2.2
  refine ⟨h2, ?_⟩
  rw [h2] at hn
  unfold wW at h; simp only [decide_eq_true_eq] at h
  rw [h2] at h
  have h1 := h.1
  unfold oQ at h1
  rw [if_neg hn.2.2.2, if_neg (show ¬ kR (b.getD 0 0) = 0 by omega)] at h1
  by_cases hg : uY b (min (kR (b.getD 0 0)) b.length) = true
  · rwa [Nat.min_eq_left hn.2.1] at hg
  · rw [if_neg hg] at h1; simp only at h1; omega
theorem QD {b : List Int} (hb : Jg b) : lG (qY b).1 = true := by
  by_cases hw : wW b = true
  · obtain ⟨h1, h2⟩ := QC hw
    have hn := CZ hw
    have y0 := EG hb 0
    unfold qY
    rw [if_pos hw, h1]
    rw [h1] at hn
    rw [Ud]
    rcases WB y0.1 with ⟨e, h⟩ | ⟨e, h⟩ | ⟨e, h⟩ | ⟨e, h⟩ | e
    · rw [e]; unfold SK; simp only [if_true]; omega
    · rw [e] at h2 ⊢
      have k1 := wQ (vM h2 (show 1 < 2 by decide)) (by decide)
      unfold SK; simp only [show ¬ (2 = 1) by decide, if_false, if_true]; omega
    · rw [e] at h2 ⊢
      have k1 := wQ (vM h2 (show 1 < 3 by decide)) (by decide)
      have k2 := wQ (vM h2 (show 2 < 3 by decide)) (by decide)
      have k3 := OT (vM h2 (show 1 < 3 by decide))
      have hhi : b.getD 0 0 = 237 → b.getD 1 0 ≤ 159 := fun q => by
        have := k3.2; unfold Ar at this; rw [if_pos q] at this; exact this
      unfold SK; simp only [show ¬ (3 = 1) by decide, show ¬ (3 = 2) by decide, if_false, if_true]; omega
    · rw [e] at h2 ⊢
      have k1 := wQ (vM h2 (show 1 < 4 by decide)) (by decide)
      have k2 := wQ (vM h2 (show 2 < 4 by decide)) (by decide)
      have k4 := wQ (vM h2 (show 3 < 4 by decide)) (by decide)
      have k3 := OT (vM h2 (show 1 < 4 by decide))
      have hlo : b.getD 0 0 = 240 → 144 ≤ b.getD 1 0 := fun q => by
        have := k3.1; unfold Jf at this; rw [if_neg (by omega), if_pos q] at this; exact this
      have hhi : b.getD 0 0 = 244 → b.getD 1 0 ≤ 143 := fun q => by
        have := k3.2; unfold Ar at this; rw [if_neg (by omega), if_pos q] at this; exact this
      unfold SK; simp only [show ¬ (4 = 1) by decide, show ¬ (4 = 2) by decide, show ¬ (4 = 3) by decide, if_false]; omega
    · omega
  · rw [Wj (by simpa using hw)]; rfl
theorem Mc {b : List Int} (hb : Jg b) : ∀ r ∈ xQ b, lG r = true := by
  induction hn : b.length using Nat.strongRecOn generalizing b with
  | _ n ih =>
    by_cases he : b = []
    · subst he; simp [GR]
    · have h := DT he
      rw [E8 he]
      intro r hr
      rcases List.mem_cons.1 hr with rfl | hr
      · exact QD hb
      · exact ih (b.drop (qY b).2).length (by simp; omega) (Kz hb _) rfl r hr
end Go.Proofs.YtimndnfpcomhlaaGreatDoor
end
section
namespace Go.Proofs.YtimndnfpcomhlaaGreatDoor
open Go.RowKit
def RE (e : gV) : Prop := eP e.2.1 ∧ eP e.2.2
def RG (G : List (List gV)) : Prop := ∀ g ∈ G, ∀ e ∈ g, RE e
structure RC (c : pX) : Prop where
  L : eP c.L
  E : ∀ x ∈ c.E, eP x
  un : ∀ k, RG (c.un k)
structure RS (s : aY) : Prop where
  c : RC s.c
  put : ∀ e ∈ s.put, RE e
  was : s.inn = true → RC s.was
structure Fr (s t : aY) : Prop where
  inn : t.inn = s.inn
  was : t.was = s.was
  hl : t.hl = s.hl
  kE : t.kE = s.kE
section
variable {s t u : aY} {L l : List Int}
theorem eP.nil : eP [] := fun x hx => absurd hx (by simp)
theorem eP.app (h : eP L) (g : eP l) : eP (L ++ l) := fun x hx => (List.mem_append.1 hx).elim (h x) (g x)
theorem eP.take (h : eP L) (n : Nat) : eP (L.take n) := fun x hx => h x (List.mem_of_mem_take hx)
theorem eP.drop (h : eP L) (n : Nat) : eP (L.drop n) := fun x hx => h x (List.mem_of_mem_drop hx)
theorem WE {i j : Int} (h : eP L) (g : eP l) : eP (kL L i j l) := by
  unfold kL; split
  · exact ((h.take _).app g).app (h.drop _)
  · exact h
theorem Yi {i j : Int} (h : eP L) : eP (lg L i j l) := by
  unfold lg; split
  · exact (h.drop _).take _
  · exact eP.nil
theorem Yj {i j : Int} (g : eP l) : eP (lq L i j l) := by
  unfold lq; split
  · exact g
  · exact eP.nil
theorem abv {a : Int} {dl il : List Int} (h : eP L) (g : eP il) : eP (zf L a dl il) := by
  unfold zf; split
  · exact WE h g
  · exact h
theorem acT {xs : List gV} (h : eP L) (g : ∀ e ∈ xs, RE e) : eP (bk L xs) := by
  unfold bk
  have g2 : ∀ e ∈ xs.reverse.map vV, RE e := fun e he => by
    obtain ⟨x, hx, rfl⟩ := List.mem_map.1 he
    exact ⟨(g x (List.mem_reverse.1 hx)).2, (g x (List.mem_reverse.1 hx)).1⟩
  generalize xs.reverse.map vV = l at g2
  induction l generalizing L with
  | nil => exact h
  | cons x l ih => exact ih (abv h (g2 x List.mem_cons_self).2) fun e he => g2 e (List.mem_cons_of_mem _ he)
theorem Md {E : List (List Int)} (h : ∀ x ∈ E, eP x) (n : Nat) : eP (E.getD n []) := by
  rw [List.getD_eq_getElem?_getD]
  by_cases hn : n < E.length
  · rw [List.getElem?_eq_getElem hn]; exact h _ (List.getElem_mem _)
  · rw [List.getElem?_eq_none (by omega)]; exact eP.nil
theorem Z9 {E : List (List Int)} {p : Nat} {way : Int} (h : ∀ x ∈ E, eP x) (g : eP l) : ∀ x ∈ (yH E p way l).2.1, eP x := by
  unfold yH
  split
  · exact h
  · split
    · exact h
    · split
      · split
        · exact h
        · intro x hx
          rcases List.mem_cons.1 hx with rfl | hx
          · split
            · exact (Md h 0).app g
            · exact g.app (Md h 0)
          · exact h x (List.mem_of_mem_tail hx)
      · split
        · exact h
        · intro x hx
          rcases List.mem_cons.1 (List.mem_of_mem_take hx) with rfl | hx
          · exact g
          · exact h x hx
theorem Fr.refl (s : aY) : Fr s s := ⟨rfl, rfl, rfl, rfl⟩
theorem Fr.trans (h : Fr s t) (g : Fr t u) : Fr s u := ⟨g.inn.trans h.inn, g.was.trans h.was, g.hl.trans h.hl, g.kE.trans h.kE⟩
theorem QE {U : Int → List (List gV)} {k : Int} {G : List (List gV)} (h : ∀ k, RG (U k)) (g : RG G) : ∀ x, RG (vF U k G x) := fun x => by
  unfold vF; split
  · exact g
  · exact h x
def Kept (s t : aY) : Prop := RS t ∧ Fr s t
theorem aac (h : RS s) {x : gV} (hx : RE x) : Kept s (s.nO x) := by
  unfold aY.nO
  split
  · exact ⟨h, Fr.refl s⟩
  · split
    · exact ⟨⟨⟨h.c.L, h.c.E, QE h.c.un (fun g hg => absurd hg (by simp))⟩, fun e he => by rw [List.mem_singleton.1 he]; exact hx, h.was⟩, ⟨rfl, rfl, rfl, rfl⟩⟩
    · exact ⟨⟨h.c, fun e he => (List.mem_append.1 he).elim (h.put e) (fun he => by rw [List.mem_singleton.1 he]; exact hx), h.was⟩, ⟨rfl, rfl, rfl, rfl⟩⟩
theorem Dw (h : RS s) (i j : Int) (g : eP l) : Kept s (s.iw i j l) := by
  unfold aY.iw
  split
  · have h1 : RS (s.lJ (kL s.c.L i j l) (qJ s.c.L s.c.pt i j l) (qZ s.c.L s.c.mark i j l)) := ⟨⟨WE h.c.L g, h.c.E, h.c.un⟩, h.put, h.was⟩
    obtain ⟨a, b⟩ := aac h1 (x := (qK s.c.L i j l, lg s.c.L i j l, lq s.c.L i j l)) ⟨Yi h.c.L, Yj g⟩
    exact ⟨a, ⟨b.inn, b.was, b.hl, b.kE⟩⟩
  · exact ⟨h, Fr.refl s⟩
theorem WG (h : RS s) (i j : Int) (b : Bool) : Kept s (s.qN i j b) := by
  unfold aY.qN
  split
  · exact ⟨⟨⟨h.c.L, Z9 h.c.E ((h.c.L.drop _).take _), h.c.un⟩, h.put, h.was⟩, ⟨rfl, rfl, rfl, rfl⟩⟩
  · exact ⟨h, Fr.refl s⟩
theorem Me (h : RS s) (on : Bool) : Kept s (s.cO on) := by
  unfold aY.cO
  split
  · exact ⟨h, Fr.refl s⟩
  · refine ⟨⟨⟨h.c.L, h.c.E, QE h.c.un fun g hg e he => ?_⟩, fun e he => absurd he (by simp), h.was⟩, ⟨rfl, rfl, rfl, rfl⟩⟩
    have hf : e ∈ (s.jw on).flatten := List.mem_flatten.2 ⟨g, hg, he⟩
    rw [Ba] at hf
    rcases List.mem_append.1 hf with hf | hf
    · obtain ⟨g', hg', he'⟩ := List.mem_flatten.1 hf
      exact h.c.un _ g' hg' e he'
    · exact h.put e hf
theorem aad (h : RS s) : Kept s s.oU := by
  unfold aY.oU
  split
  · obtain ⟨a, b⟩ := Me h false
    dsimp only
    split
    · exact ⟨a, b⟩
    · refine ⟨⟨⟨?_, a.c.E, QE a.c.un fun g hg => a.c.un _ g (List.dropLast_subset _ hg)⟩, a.put, a.was⟩, ⟨b.inn, b.was, b.hl, b.kE⟩⟩
      show eP (aY.apps ((s.cO false).c.L, (s.cO false).c.pt, (s.cO false).c.mark) (((s.cO false).here.getLastD []).reverse.map vV)).1
      rw [OJ]
      refine acT a.c.L fun e he => ?_
      rename_i hne
      rcases List.eq_nil_or_concat (s.cO false).here with hc | ⟨hs, g, hc⟩
      · exact absurd hc hne
      · rw [List.concat_eq_append] at hc
        rw [hc] at he
        have : e ∈ g := by simpa using he
        exact a.c.un (s.cO false).c.place g (by show g ∈ (s.cO false).here; rw [hc]; simp) e this
  · exact ⟨h, Fr.refl s⟩
theorem aae (s : aY) (k : Int) : eP (s.vX k) := by
  unfold aY.vX
  intro r hr
  have hv := Mc (BN _) r hr
  unfold lG at hv
  simp at hv
  omega
theorem aaf (h : RS s) (k : Int) : Kept s (s.zX k) := by
  unfold aY.zX
  split
  · obtain ⟨a, b⟩ := Me h false
    exact ⟨⟨⟨aae s k, a.c.E, a.c.un⟩, a.put, a.was⟩, ⟨b.inn, b.was, b.hl, b.kE⟩⟩
  · exact ⟨h, Fr.refl s⟩
end
section
variable {s t : aY} {p : CO}
theorem aag (h : RS s) (g : eP p.text) : Kept s (s.edit p) := by
  have hs : Kept s s := ⟨h, Fr.refl s⟩
  unfold aY.edit
  by_cases k0 : p.kd = 0
  · rw [if_pos k0]
    unfold aY.mX
    split
    · dsimp only
      obtain ⟨a, b⟩ := Dw h s.c.pt (s.kX p.text) g
      split
      · exact ⟨⟨a.c, a.put, a.was⟩, ⟨b.inn, b.was, b.hl, b.kE⟩⟩
      · exact ⟨a, b⟩
    · exact hs
  rw [if_neg k0]
  by_cases k1 : p.kd = 1
  · rw [if_pos k1]; exact Dw h _ _ g
  rw [if_neg k1]
  by_cases k2 : p.kd = 2
  · rw [if_pos k2]; exact Dw h _ _ eP.nil
  rw [if_neg k2]
  by_cases k3 : p.kd = 3
  · rw [if_pos k3]; exact Dw h _ _ g
  rw [if_neg k3]
  by_cases k4 : p.kd = 4
  · rw [if_pos k4]
    unfold aY.wC
    split
    · obtain ⟨a, b⟩ := WG h p.a p.b p.back
      obtain ⟨c, d⟩ := Dw a p.a p.b eP.nil
      exact ⟨c, b.trans d⟩
    · exact hs
  rw [if_neg k4]
  by_cases k5 : p.kd = 5
  · rw [if_pos k5]; exact WG h _ _ _
  rw [if_neg k5]
  by_cases k6 : p.kd = 6
  · rw [if_pos k6]
    unfold aY.xE
    split
    · obtain ⟨a, b⟩ := Dw h s.c.pt s.c.pt (l := s.top) (Md h.c.E _)
      exact ⟨⟨⟨a.c.L, a.c.E, a.c.un⟩, a.put, a.was⟩, ⟨b.inn, b.was, b.hl, b.kE⟩⟩
    · exact hs
  rw [if_neg k6]
  by_cases k7 : p.kd = 7
  · rw [if_pos k7]
    unfold aY.Ad
    split
    · obtain ⟨a, b⟩ := Dw h s.c.fr s.c.to (l := s.AQ p.a) (Md h.c.E _)
      exact ⟨⟨⟨a.c.L, h.c.E, a.c.un⟩, a.put, a.was⟩, ⟨b.inn, b.was, b.hl, b.kE⟩⟩
    · exact hs
  rw [if_neg k7]
  by_cases k8 : p.kd = 8
  · rw [if_pos k8]; unfold aY.yQ; split
    · exact ⟨⟨⟨h.c.L, h.c.E, h.c.un⟩, h.put, h.was⟩, ⟨rfl, rfl, rfl, rfl⟩⟩
    · exact hs
  rw [if_neg k8]
  by_cases k9 : p.kd = 9
  · rw [if_pos k9]; unfold aY.Ci; split
    · exact ⟨⟨⟨h.c.L, h.c.E, h.c.un⟩, h.put, h.was⟩, ⟨rfl, rfl, rfl, rfl⟩⟩
    · exact hs
  rw [if_neg k9]
  by_cases k10 : p.kd = 10
  · rw [if_pos k10]; unfold aY.Cj; split
    · exact ⟨⟨⟨h.c.L, h.c.E, h.c.un⟩, h.put, h.was⟩, ⟨rfl, rfl, rfl, rfl⟩⟩
    · exact hs
  rw [if_neg k10]
  by_cases k11 : p.kd = 11
  · rw [if_pos k11]; exact aad h
  rw [if_neg k11]
  by_cases k17 : p.kd = 17
  · rw [if_pos k17]; unfold aY.AV; split
    · exact ⟨⟨⟨h.c.L, h.c.E, h.c.un⟩, h.put, h.was⟩, ⟨rfl, rfl, rfl, rfl⟩⟩
    · exact hs
  rw [if_neg k17]
  exact hs
theorem RN (h : RS s) (g : eP p.text) : Kept s (s.FM p) := by
  unfold aY.FM
  split
  · exact aaf h _
  · exact aag h g
theorem Eo (h : RS s) : RS s.bZ := by
  unfold aY.bZ
  split
  · exact h
  · exact ⟨⟨h.c.L, h.c.E, h.c.un⟩, fun e he => absurd he (by simp), fun _ => h.c⟩
theorem abw (h : RS s) (err : Int) : RS (s.jP err) := by
  unfold aY.jP
  split
  · rename_i hi
    split
    · have h1 : RS s.je := by unfold aY.je; split <;> exact ⟨⟨h.c.L, h.c.E, h.c.un⟩, h.put, fun hc => Bool.noConfusion hc⟩
      obtain ⟨a, b⟩ := Me h1 (s.typed && s.c.run)
      unfold aY.ng
      dsimp only
      split <;> exact ⟨⟨a.c.L, a.c.E, a.c.un⟩, a.put, a.was⟩
    · have hw := h.was hi
      exact ⟨⟨hw.L, hw.E, hw.un⟩, fun e he => absurd he (by simp [aY.zx]), fun hc => Bool.noConfusion hc⟩
  · exact h
theorem abx (hl : List qE) (base most : Int) : RS (aY.new hl base most) := ⟨⟨eP.nil, fun x hx => absurd hx (by simp [aY.new, pX.fresh]), fun k g hg => absurd hg (by simp [aY.new, pX.fresh])⟩, fun e he => absurd he (by simp [aY.new]), fun h => Bool.noConfusion h⟩
theorem Yk (hi : t.inn = true) (hw : t.was = s.c) (hh : t.hl = s.hl) (hb : t.kE = s.kE) {err : Int} (he : err ≠ 0) :
    (t.jP err).c = { s.c with last := 0, fr := 0, to := 0 } ∧ (t.jP err).hl = s.hl ∧ (t.jP err).kE = IntKind.i64.wrap (s.kE + 1) ∧ (t.jP err).given = false ∧ (t.jP err).inn = false ∧ t.Di err = err := by
  unfold aY.jP aY.Di
  rw [if_pos hi, if_neg he, if_pos hi]
  unfold aY.zx aY.xC
  rw [← hw, ← hh, ← hb]
  exact ⟨rfl, rfl, rfl, rfl, rfl, rfl⟩
theorem IV (h : s.inn = false) : s.yg = s.here.length := by unfold aY.yg qy; rw [h]; simp
theorem WH (h : s.inn = false) : s.bZ.was = s.c ∧ s.bZ.hl = s.hl ∧ s.bZ.kE = s.kE := by unfold aY.bZ; rw [if_neg (by rw [h]; decide)]; exact ⟨rfl, rfl, rfl⟩
end
end Go.Proofs.YtimndnfpcomhlaaGreatDoor
end
section
namespace Go.Proofs.YtimndnfpcomhlaaGreatDoor
open Go.RowKit
open _root_.Go.Proofs.Tryz
section
variable {L : List (Nat × Value)} {w : World} {x y : Operand} {ty : TypeId}
theorem MB {c : Int × ByteArray} (hx : ev L x = some (.agg (qO c).toArray)) (hy : ev L y = some (.agg (qO c).toArray)) : Val prog L (.binOp .neq 88 x y 88) ty w (.bool false) w := fun ρ hρ _ _ _ _ => by
  simp only [execOp, hρ _ _ hx, hρ _ _ hy]
  have h0 : (eqGuard .neq 88 x y (.agg (qO c).toArray) (.agg (qO c).toArray)).run prog w = .ok () w := run_eqGuard_agg w .neq _ x y _ _ (by kernel_rfl)
  have hf : prog.underlying 88 = some (.struct (prog.fieldsOf 88)) := by kernel_rfl
  have hp : prog.stoodInHeld 88 = false := by kernel_rfl
  have hfs : ((prog.fieldsOf 88).toList.map fun f => (f.name, f.type, f.offset)) = [("At", 3, 0), ("Text", 9, 1)] := by kernel_rfl
  have h1 : (Op.eqFields 9999 (qO c).toArray (qO c).toArray (prog.fieldsOf 88).toList).run prog w = .ok true w := by
    generalize (prog.fieldsOf 88).toList = fs at hfs
    match fs, hfs with
    | [], hfs | [_], hfs | _ :: _ :: _ :: _, hfs => simp at hfs
    | [f1, f2], hfs =>
      simp only [List.map_cons, List.map_nil, List.cons.injEq, Prod.mk.injEq, and_true] at hfs
      obtain ⟨⟨n1, t1, o1⟩, n2, t2, o2⟩ := hfs
      have p1 : oq prog 9 = true := fK underlying9 rfl
      have p2 : oq prog 3 = true := fK underlying3 rfl
      have RP : ∀ (e : TypeId) (xs : Array Value) (off : Nat) (v : Value), oq prog e = true → xs[off]? = some v → (part e xs off).run prog w = .ok v w := fun e xs off v h1 h2 => by simp [part, DF h1, h2]
      have st : ∀ (f : Field) (e : TypeId) (off : Nat) (u v : Value) (r : Bool) (rest : List Field), f.name ≠ "_" → f.type = e → f.offset = off → oq prog e = true → (qO c).toArray[off]? = some u → (qO c).toArray[off]? = some v → (Op.equalIn 9999 e u v).run prog w = .ok r w →
          (Op.eqFields 9999 (qO c).toArray (qO c).toArray (f :: rest)).run prog w = if r then (Op.eqFields 9999 (qO c).toArray (qO c).toArray rest).run prog w else .ok false w := fun f e off u v r rest hn ht ho hp h1 h2 h3 => by
        subst ht ho
        rw [Op.eqFields, if_pos hn, Sem.run_bind, RP _ _ _ _ hp h1, Result.andThen_ok, Sem.run_bind, RP _ _ _ _ hp h2, Result.andThen_ok, Sem.run_bind, h3, Result.andThen_ok]
        cases r
        · simp
        · simp
      rw [st f1 _ _ _ _ _ _ (by rw [n1]; decide) t1 o1 p2 rfl rfl (run_equalIn_int w 9998 3 .i64 .i64 c.1 c.1 underlying3),
        st f2 _ _ _ _ _ _ (by rw [n2]; decide) t2 o2 p1 rfl rfl (run_equalIn_string w 9998 9 c.2 c.2 underlying9)]
      simp [Op.eqFields]
  have h2 := run_neq_struct (P := prog) w 88 (qO c).toArray (qO c).toArray
  rw [run_equalIn_agg w 9999 _ _ _ hf hp, h1] at h2
  simp [h0, h2]
end
def IW (v : Value) (pt mk : Int) : Array Value := #[v, .int .i64 pt, .int .i64 mk]
def WI (p : Nat) (L : List Int) (pt mk : Int) : HP := wR fun (v : Value) => fact (L.length ≤ 1024 ∧ (0 ≤ pt ∧ pt ≤ L.length) ∧ (-1 ≤ mk ∧ mk ≤ L.length)) • dR p (.cells (IW v pt mk) 185 (0, 0)) • jR 21 .i32 v L
section
variable {w0 w : World} {F : HP} {p : Nat} {L : List Int} {pt mk : Int} {v : Value} {l : List Int} {i j : Int}
theorem V.aah (h1 : L.length ≤ 1024) (h2 : 0 ≤ pt ∧ pt ≤ L.length) (h3 : -1 ≤ mk ∧ mk ≤ L.length) (H : V w0 w (dR p (.cells (IW v pt mk) 185 (0, 0)) • jR 21 .i32 v L • F)) : V w0 w (WI p L pt mk • F) :=
  V.jQ v (V.deep (V.nH ⟨h1, h2, h3⟩ (V.deep H)))
theorem OU (H : V w0 w F) (hr : kP w0 F .i32 v l) (hl : l.length ≤ 1024) : iU prog 89 #[v] w fun v' w' => ∃ p, v' = .tuple #[.pointer (some ⟨p, 0, none⟩), .int .i64 0] ∧ V w0 w' (WI p l l.length (-1) • F) := by
  obtain ⟨a, c, rfl, hc1, hc2, _⟩ := (hr w H).open
  refine ji func89 ntmps89 ?_
  refine jg (lU O (tJ O (bM O (aV (jy aG O) (aV (fZ O O) (iT (O7 O (fun h1 => ?_))))))))
  (try simp only [aH] at h1)
  refine iq (lZ O (bM O (cZ O (jL (gy (l := []) (H.jH none) (hr _ H) aG Au O O (by simp only [List.length_nil]; omega) (by simp only [List.length_nil]; omega)) ?_))))
  rintro u w1 H1
  rw [List.nil_append] at H1
  obtain ⟨au, cu, hu, _⟩ := (H1.aP).form
  subst hu
  refine gY O (bM O (cZ O (aV (jy aG O) (aV (lQ (pl := #[(0, 1), (1, 1), (2, 1)]) (IW (.slice au l.length cu) l.length (-1)) underlying185 zeroValue185 (fun w => by kernel_rfl) O (by kernel_rfl)) (jL (JI H1 O) ?_)))))
  rintro _ w2 ⟨b2, rfl, H2⟩
  refine lU O (iW O (DL results89 O O ?_))
  exact ⟨_, O, V.aah hl (by omega) (by omega) H2⟩
end
section
variable {w0 w : World} {F : HP} {p : Nat} {L : List Int} {pt mk x : Int} {v : Value} {l : List Int}
theorem Jy {u u' : Value} (H : V w0 w F) (g1 : kP w0 F .i32 u l) (g2 : kP w0 F .i32 u' l) : iU prog 40 #[.agg (pR u pt mk), .agg (pR u' pt mk)] w fun v w' => v = .bool true ∧ V w0 w' F := by
 refine oP func40 ntmps40 ?_
 refine jg (jL (JI H O) ?_)
 rintro _ w1 ⟨b1, rfl, H1⟩
 refine jL (JI H1 O) ?_
 rintro _ w2 ⟨b2, rfl, H2⟩
 refine tJ O ?_
 have HB : V w0 w2 (dR b2 (.cells (pR u' pt mk) 40 (0, 0)) • dR b1 (.cells (pR u pt mk) 40 (0, 0)) • F) := H2
 refine aC (bf 0 jo O dD O (dQ aG O HB.swap.get.2 O (bf 0 jo O dD O (dQ aG O HB.get.2 O (dZ O func41 (Np _ _ _ l (g1 _ HB.right.right) (g2 _ HB.right.right)) ?_)))))
 rintro _ w3 ⟨rfl, hD1⟩
 have HE1 := HB.qW hD1
 refine cZ O (bU (bf 1 jo O aj O (bU (dQ ay O HE1.swap.get.2 O (bU (bf 1 jo O aj O (bU (dQ ay O HE1.get.2 O (bU ?_)))))))))
 refine aV (wL (ig O O) (by first | (rw [decide_eq_true_eq]; omega) | (rw [decide_eq_false_iff_not]; omega) | (rw [beq_iff_eq]; omega) | (rw [beq_eq_false_iff_ne]; omega) | (rw [bne_iff_ne]; omega) | (rw [bne_eq_false_iff_eq]; omega) | (simp; done) | (simp; omega))) ?_
 refine pW O O (cZ O (bU (bf 2 jo O aj O (bU (dQ ay O HE1.swap.get.2 O (bU (bf 2 jo O aj O (bU (dQ ay O HE1.get.2 O (bU ?_))))))))))
 refine aV (wL (ig O O) (by first | (rw [decide_eq_true_eq]; omega) | (rw [decide_eq_false_iff_not]; omega) | (rw [beq_iff_eq]; omega) | (rw [beq_eq_false_iff_ne]; omega) | (rw [bne_iff_ne]; omega) | (rw [bne_eq_false_iff_eq]; omega) | (simp; done) | (simp; omega))) ?_
 refine pW O O (iW O (fB results40 O ?_))
 exact ⟨O, HE1.right.right⟩
end
structure Xh where
  pt : Int
  mrk : Int
  mode : Int
  over : Bool
  given : Bool
  minus : Bool
  arg : Int
  last : Int
  fr : Int
  to : Int
  place : Int
  YW : Int
  res : Int
  kE : Int
def stL (x : Xh) (u ks sv : Value) : List Value := [u, .int .i64 x.pt, .int .i64 x.mrk, .int .i64 x.mode, .bool x.over, .bool x.given, .bool x.minus, .int .i64 x.arg, .int .i64 x.last, .int .i64 x.fr, .int .i64 x.to, ks, .int .i64 x.place, sv, .int .i64 x.YW, .int .i64 x.res, .int .i64 x.kE]
theorem RQ (x : Int × ByteArray) : (qO x).length = 2 := rfl
section
variable {w0 w : World} {F : HP} {x : Xh} {u z ks qs sv tv : Value} {l : List Int} {ls : List (List Int)} {us vs : List Value} {S : List (Int × ByteArray)}
theorem IX (H : V w0 w F) (g1 : kP w0 F .i32 u l) (g2 : kP w0 F .i32 z l) (k1 : Bl w0 F 1 ks ls.length us) (k2 : Bl w0 F 1 qs ls.length vs)
  (e1 : ∀ k, k < ls.length → kP w0 F .i32 (us.getD k undef) (ls.getD k [])) (e2 : ∀ k, k < ls.length → kP w0 F .i32 (vs.getD k undef) (ls.getD k []))
  (s1 : Bl w0 F 2 sv S.length (S.flatMap qO)) (s2 : Bl w0 F 2 tv S.length (S.flatMap qO)) :
  iU prog 10 #[.agg (stL x u ks sv).toArray, .agg (stL x z qs tv).toArray] w fun v' w' => v' = .bool true ∧ V w0 w' F := by
 have hb1 : (ls.length : Int) ≤ 9223372036854775807 := by obtain ⟨_, a, c, _, h1, h2, _⟩ := k1 w H; omega
 have hb2 : (S.length : Int) ≤ 9223372036854775807 := by obtain ⟨_, a, c, _, h1, h2, _⟩ := s1 w H; omega
 unfold stL
 refine oP func10 ntmps10 ?_
 refine jg (jL (jG (l := [_, _, _, _, _, _, _, _, _, _, _, _, _, _, _, _, _]) H O O) ?_)
 rintro _ w1 ⟨b1, rfl, H1⟩
 refine jL (jG (l := [_, _, _, _, _, _, _, _, _, _, _, _, _, _, _, _, _]) H1 O O) ?_
 rintro _ w2 ⟨b2, rfl, H2⟩
 refine tJ O (jg (bf 0 aT O sizeOf40 O (aV (uV 0 (xs := [_, _, _]) jo O sizeOf40 O O (H2.f2).get.2 O) (bf 0 aT O sizeOf40 O (aV (uV 0 (xs := [_, _, _]) jo O sizeOf40 O O (H2).get.2 O) (dZ O func40 (Jy (l := l) (pt := x.pt) (mk := x.mrk) H2 (fun W HW => g1 _ (HW.right.right)) (fun W HW => g2 _ (HW.right.right))) ?_))))))
 rintro _ w3 ⟨rfl, H3⟩
 refine aV (oO O) (JO O (fun h1 => ?_))
 (try simp only [aH] at h1)
 refine bU (bf 3 aT O aj O (bU (dQ ay O (H3.f2).get.2 O (bU (bf 3 aT O aj O (bU (dQ ay O (H3).get.2 O (bU (aV (dO O O) (lV O O (JO O (fun h2 => ?_))))))))))))
 (try simp only [aH] at h2)
 refine bU (bf 4 aT O aQ O (bU (dQ bW O (H3.f2).get.2 O (bU (bf 4 aT O aQ O (bU (dQ bW O (H3).get.2 O (bU (aV (CV bW O O) (lV O O (JO O (fun h3 => ?_))))))))))))
 (try simp only [aH] at h3)
 refine bU (bf 5 aT O aQ O (bU (dQ bW O (H3.f2).get.2 O (bU (bf 5 aT O aQ O (bU (dQ bW O (H3).get.2 O (bU (aV (CV bW O O) (lV O O (JO O (fun h4 => ?_))))))))))))
 (try simp only [aH] at h4)
 refine bU (bf 6 aT O aQ O (bU (dQ bW O (H3.f2).get.2 O (bU (bf 6 aT O aQ O (bU (dQ bW O (H3).get.2 O (bU (aV (CV bW O O) (lV O O (JO O (fun h5 => ?_))))))))))))
 (try simp only [aH] at h5)
 refine bU (bf 7 aT O aj O (bU (dQ ay O (H3.f2).get.2 O (bU (bf 7 aT O aj O (bU (dQ ay O (H3).get.2 O (bU (aV (dO O O) (lV O O (JO O (fun h6 => ?_))))))))))))
 (try simp only [aH] at h6)
 refine bU (bf 8 aT O aj O (bU (dQ ay O (H3.f2).get.2 O (bU (bf 8 aT O aj O (bU (dQ ay O (H3).get.2 O (bU (aV (dO O O) (lV O O (JO O (fun h7 => ?_))))))))))))
 (try simp only [aH] at h7)
 refine bU (bf 9 aT O aj O (bU (dQ ay O (H3.f2).get.2 O (bU (bf 9 aT O aj O (bU (dQ ay O (H3).get.2 O (bU (aV (dO O O) (lV O O (JO O (fun h8 => ?_))))))))))))
 (try simp only [aH] at h8)
 refine bU (bf 10 aT O aj O (bU (dQ ay O (H3.f2).get.2 O (bU (bf 10 aT O aj O (bU (dQ ay O (H3).get.2 O (bU (aV (dO O O) (lV O O (JO O (fun h9 => ?_))))))))))))
 (try simp only [aH] at h9)
 refine bU (bf 11 aT O sizeOf41 O (bU (dQ fC O (H3.f2).get.2 O (bU (aV (iE (k1 _ (H3.right.right)) fC O) (bU (bf 11 aT O sizeOf41 O (bU (dQ fC O (H3).get.2 O (bU (aV (iE (k2 _ (H3.right.right)) fC O) (bU (aV (dO O O) (lV O O (iT (I8 O (fun h10 => ?_)))))))))))))))))
 (try simp only [aH] at h10)
 refine iq (aO (lZ O (bn ?_)))
 refine iR [(2, _), (3, _)] (fun (k : Nat) => [(5, .int .i64 (k : Int))]) (fun (k : Nat) W => k ≤ ls.length ∧ V w0 W (dR b1 (.cells (stL x u ks sv).toArray 44 (0, 0)) • dR b2 (.cells (stL x z qs tv).toArray 44 (0, 0)) • F)) (fun (k : Nat) => ls.length - k) (0) vT sJ ⟨by omega, H3.f2⟩ ?_
 rintro k w4 ⟨hk, HL⟩
 dsimp only [List.cons_append, List.nil_append]
 refine aO (bM O (bf 11 aT O sizeOf41 O (dQ fC O (HL).get.2 O (aV (iE (k1 _ (HL.right.right)) fC O) (aV (fJ O O) (kK O (fun h11 => ?_) (fun h11 => ?_)))))))
 ·(try simp only [aH] at h11)
  have hkl : k < ls.length := by have h9 := h11; omega
  refine iq (aO (bn (aO ?_)))
  have Ue := HL.drew
  have Bc := V.kp (Ue.f2.f2)
  refine xP [1, 4, 6, 9] Bc O (fV 0 O Bc 11 aT O sizeOf41 O (jq 1 O Bc (fun W hW => jV fC O ((Kp.h hW)).get.2 O) (jc 2 O Bc O ?_)))
  obtain ⟨bks, oks, cks, eks⟩ := Rd.vS (k1 _ (Ue.right.right)) (by omega)
  cases eks
  refine jW 3 O Bc (fun _ => gU fC dD O O (by omega)) ?_
  refine jq 4 O Bc (fun W hW => jM (fK aG O) O (by first | exact Rd.GI (k1 _ ((Kp.h hW).right.right)) (by omega) | exact Rd.Xx (k1 _ ((Kp.h hW).right.right)) (by omega) | exact Rd.Xb (k1 _ ((Kp.h hW).right.right)) (by omega))) ?_
  refine Uu (fun adg aai => ?_)
  refine fV 5 O Bc 11 aT O sizeOf41 O (jq 6 O Bc (fun W hW => jV fC O ((Kp.h hW).f2).get.2 O) (jc 7 O Bc O ?_))
  obtain ⟨bqs, oqs, cqs, eqs⟩ := Rd.vS (k2 _ (Ue.right.right)) (by omega)
  cases eqs
  refine jW 8 O Bc (fun _ => gU fC dD O O (by omega)) ?_
  refine jq 9 O Bc (fun W hW => jM (fK aG O) O (by first | exact Rd.GI (k2 _ ((Kp.h hW).right.right)) (by omega) | exact Rd.Xx (k2 _ ((Kp.h hW).right.right)) (by omega) | exact Rd.Xb (k2 _ ((Kp.h hW).right.right)) (by omega))) ?_
  refine Uu (fun adh aaj => ?_)
  refine mP 10 O (wu O func41 (Nl _ _ _ _ _ ((by rw [aai]; exact e1 _ (by omega) _ (Ue.right.right))) ((by rw [aaj]; exact e2 _ (by omega) _ (Ue.right.right))))) ?_
  rintro _ w7 ⟨rfl, hD7⟩
  have HD7 := Ue.qW hD7
  have yM := V.kp (HD7.f2.f2)
  refine iC yM (by kernel_rfl) ?_
  refine jW 11 O yM (fun _ => oO O) (qp (bg (I8 O (fun h12 => ?_))))
  (try simp only [aH] at h12)
  refine fU (aN (bg (aC (cZ O (aV (gX O O (by omega)) (lU O (bY ?_)))))))
  refine fG (k + 1) ?_ ?_ ?_ ?_
  ·exact sJ
  ·exact vT
  ·(try dsimp only)
   first | done | exact ⟨by omega, HD7.f2.f2⟩
  ·(try dsimp only); omega
 ·(try simp only [aH] at h11)
  refine iJ (aX (aX (dA (bg (aO (jg (bf 12 aT O aj O (dQ ay O (HL).get.2 O (bf 12 aT O aj O (dQ ay O (HL.f2).get.2 O (aV (dO O O) (JO O (fun h13 => ?_)))))))))))))
  (try simp only [aH] at h13)
  refine bU (bf 13 aT O sizeOf42 O (bU (dQ iO O (HL).get.2 O (bU (aV (iE (s1 _ (HL.right.right)) iO O) (bU (bf 13 aT O sizeOf42 O (bU (dQ iO O (HL.f2).get.2 O (bU (aV (iE (s2 _ (HL.right.right)) iO O) (bU (aV (dO O O) (lV O O (JO O (fun h14 => ?_))))))))))))))))
  (try simp only [aH] at h14)
  refine bU (bf 14 aT O aj O (bU (dQ ay O (HL).get.2 O (bU (bf 14 aT O aj O (bU (dQ ay O (HL.f2).get.2 O (bU (aV (dO O O) (lV O O (JO O (fun h15 => ?_))))))))))))
  (try simp only [aH] at h15)
  refine bU (bf 15 aT O aj O (bU (dQ ay O (HL).get.2 O (bU (bf 15 aT O aj O (bU (dQ ay O (HL.f2).get.2 O (bU (aV (dO O O) (lV O O (JO O (fun h16 => ?_))))))))))))
  (try simp only [aH] at h16)
  refine bU (bf 16 aT O jS O (bU (dQ jJ O (HL).get.2 O (bU (bf 16 aT O jS O (bU (dQ jJ O (HL.f2).get.2 O (bU (aV (dO O O) (lV O O (iT (I8 O (fun h17 => ?_)))))))))))))
  (try simp only [aH] at h17)
  refine iq (aO (lZ O (bn ?_)))
  refine iR [(2, _), (3, _)] (fun (k2 : Nat) => [(6, .int .i64 (k2 : Int))]) (fun (k2 : Nat) W => k2 ≤ S.length ∧ V w0 W (dR b1 (.cells (stL x u ks sv).toArray 44 (0, 0)) • dR b2 (.cells (stL x z qs tv).toArray 44 (0, 0)) • F)) (fun (k2 : Nat) => S.length - k2) (0) vT sJ ⟨by omega, HL.f2.f2⟩ ?_
  rintro k2 w8 ⟨hk2, HL2⟩
  dsimp only [List.cons_append, List.nil_append]
  refine aO (bM O (bf 13 aT O sizeOf42 O (dQ iO O (HL2).get.2 O (aV (iE (s1 _ (HL2.right.right)) iO O) (aV (fJ O O) (kK O (fun h18 => ?_) (fun h18 => ?_)))))))
  ·(try simp only [aH] at h18)
   have hkl2 : k2 < S.length := by have h9 := h18; omega
   refine iq (aO (bn (aO ?_)))
   have RU := HL2.drew
   have vY := V.kp (RU.f2.f2)
   refine xP [1, 4, 6, 9] vY O (fV 0 O vY 13 aT O sizeOf42 O (jq 1 O vY (fun W hW => jV iO O ((Kp.h hW)).get.2 O) (jc 2 O vY O ?_)))
   obtain ⟨bsv, osv, csv, esv⟩ := Rd.vS (s1 _ (RU.right.right)) (by omega)
   cases esv
   refine jW 3 O vY (fun _ => gU iO sizeOf88 O O (by omega)) (jq 4 O vY (fun W hW => jC (ys := [_, _]) (s1 _ ((Kp.h hW).right.right)) (by omega) underlying88 O sizeOf88 O (kH RQ (by omega) default) O) (fV 5 O vY 13 aT O sizeOf42 O (jq 6 O vY (fun W hW => jV iO O ((Kp.h hW).f2).get.2 O) (jc 7 O vY O ?_))))
   obtain ⟨btv, otv, ctv, etv⟩ := Rd.vS (s2 _ (RU.right.right)) (by omega)
   cases etv
   refine jW 8 O vY (fun _ => gU iO sizeOf88 O O (by omega)) (jq 9 O vY (fun W hW => jC (ys := [_, _]) (s2 _ ((Kp.h hW).right.right)) (by omega) underlying88 O sizeOf88 O (kH RQ (by omega) default) O) (jW 10 O vY (fun _ => MB O O) (qp (bg (I8 O (fun h19 => ?_))))))
   (try simp only [aH] at h19)
   refine fU (aN (bg (aC (cZ O (aV (gX O O (by omega)) (lU O (bY ?_)))))))
   refine fG (k2 + 1) ?_ ?_ ?_ ?_
   ·exact sJ
   ·exact vT
   ·(try dsimp only)
    first | done | exact ⟨by omega, RU.f2.f2⟩
   ·(try dsimp only); omega
  ·(try simp only [aH] at h18)
   refine iJ (aX (aX (dA (bg (lF O (fB results10 O ?_))))))
   exact ⟨O, HL2.right.right⟩
end
end Go.Proofs.YtimndnfpcomhlaaGreatDoor
end
section
namespace Go.Proofs.YtimndnfpcomhlaaGreatDoor
open Go.RowKit
def Yl (s : aY) : Xh := ⟨s.c.pt, s.c.mark, s.c.mode, s.c.over, s.given, s.minus, s.arg, s.Fj, s.frS, s.toS, s.c.place, s.yg, s.c.res, s.kE⟩
end Go.Proofs.YtimndnfpcomhlaaGreatDoor
end
section
namespace Go.Proofs.YtimndnfpcomhlaaGreatDoor
open Go.RowKit
open _root_.Go.Proofs.Tryz
def OV : aY := ((aY.new [] 1 10).bZ.mX [97]).jP 0
theorem aak : OV.c.L = [97] := by rfl
theorem Uf : (utf8 OV.c.L).toList = (ByteArray.mk #[97]).toList := by rw [aak]; exact congrArg ByteArray.toList (by rfl)
theorem OW : OV.yg = 1 := by rfl
theorem WJ : OV.arg = -1 := by rfl
theorem Ug : OV.Fj = 3 := by rfl
section
variable {w0 w : World} {F : HP}
theorem OX (H : V w0 w F) : iU prog 5 #[] w fun v w' => v = .bool true ∧ V w0 w' F := by
  refine Zb func5 ntmps5 ?_
  refine lZ O (jg (dZ O func15 (zq H (by omega)) ?_))
  rintro _ w1 ⟨p1, rfl, H1⟩
  refine cZ O (rO O O (rO O O (lU O (gY O (bM O (dZ O func13 (Iz H1) ?_))))))
  rintro _ w2 ⟨e2, rfl, H2⟩
  refine cZ O (rO O O (rO O O (lU O (tJ O (bM O (aV (dO O O) (JO O (fun h1 => ?_))))))))
  (try simp only [aH] at h1)
  refine bU (cZ O (bU (aV (dO O O) (lV O O (JO O (fun h2 => ?_))))))
  (try simp only [aH] at h2)
  refine bU (cZ O (bU (aV (kV underlying28 O O) (lV O O (iT (I8 O (fun h3 => ?_)))))))
  (try simp only [aH] at h3)
  refine iq (bM O (dZ O func6 (zB H2) ?_))
  rintro _ w3 ⟨rfl, H3⟩
  refine sU O (jL (jO (k := .i32) (l := [97]) H3 aG jr zeroValue21 O O O (by decide)) ?_)
  rintro l4 w4 H4
  refine dZ O func16 (FB H4.f2 (fun W HW => (HW).aP) (by simp)) ?_
  rintro _ w5 ⟨rfl, H5⟩
  refine sU O (dZ O func8 (Dt H5) ?_)
  rintro _ w6 ⟨rfl, H6⟩
  refine sU O (dZ O func9 (zH H6) ?_)
  rintro _ w7 ⟨u7, ks7, us7, sv7, rfl, H7⟩
  refine jL (fE (l := [_, _, _, _, _, _, _, _, _, _, _, _, _, _, _, _, _]) H7 iG O) ?_
  rintro _ w8 ⟨b8, rfl, H8⟩
  refine aI (dh 0 (l' := [_, _, _, _, _, _, _, _, _, _, _, _, _, _, _, _, _]) (us := [_, _, _, _, _, _, _, _, _, _, _, _, _, _, _, _, _]) H8 kZ O O O (aZ (by first | rfl | exact Rd.one ((H8.f2).aP)) (aF (aF (aF (aF (aF (aF (aF (aF (aF (aF (aZ (by first | rfl | exact Rd.one ((H8.f3).aP)) (aF (aZ (by first | rfl | exact Rd.one ((H8.f5).aP)) (aF (aF (aF bK))))))))))))))))) O O) ?_
  rintro _ w9 H9
  refine Xy (bf 0 aT O sizeOf40 O (bf 0 jo O dD O (dQ aG O (H9).get.2 O (aV (MR aG kG fH O ((H9.f2).aP)) (aV (Sv O O) (qC O (fun h4 => ?_) (fun h => by exfalso; (try simp only [aH] at h); exact h Uf)))))))
  (try simp only [aH] at h4)
  refine bU (bf 14 aT O aj O (bU (dQ ay O (H9).get.2 O (bU (aV (ig O O) (pW O O (qC O (fun h5 => ?_) (fun h => by exfalso; (try simp only [aH] at h); exact h OW))))))))
  (try simp only [aH] at h5)
  refine bU (bf 7 aT O aj O (bU (dQ ay O (H9).get.2 O (bU (aV (ig O O) (pW O O (qC O (fun h6 => ?_) (fun h => by exfalso; (try simp only [aH] at h); exact h WJ))))))))
  (try simp only [aH] at h6)
  refine bU (bf 8 aT O aj O (bU (dQ ay O (H9).get.2 O (bU ?_))))
  refine aV (wL (ig O O) (by exact decide_eq_true Ug)) ?_
  refine pW O O (iW O (fB results5 O ?_))
  exact ⟨O, H9.right.right.right.right.right.right.right.right⟩
end
end Go.Proofs.YtimndnfpcomhlaaGreatDoor
end
section
namespace Go.Proofs.YtimndnfpcomhlaaGreatDoor
open Go.RowKit

structure vZ where
  v : Value
  parts : List og
  err : Int
instance : Inhabited vZ := ⟨⟨.slice none 0 0, [], 0⟩⟩
def vZ.enc (c : vZ) : List Value := [c.v, .int .i64 c.err]
theorem vZ.tY (c : vZ) : c.enc.length = 2 := rfl
def vZ.m (c : vZ) : Z8 := ⟨c.parts.map og.m, c.err⟩
def vZ.Reads (W : World) (c : vZ) : Prop := Rd W 5 c.v c.parts.length (c.parts.flatMap og.enc) ∧ (∀ k, k < c.parts.length → (c.parts.getD k default).Reads W) ∧ c.parts.length ≤ 134217728
theorem rU {α β : Type} (f : β → α → β) (s : β) (l : List α) (d : α) {k : Nat} (h : k < l.length) : (l.take (k + 1)).foldl f s = f ((l.take k).foldl f s) (l.getD k d) := by
  rw [List.take_succ_eq_append_getElem h, List.foldl_append, List.getD_eq_getElem?_getD, List.getElem?_eq_getElem h]; rfl
def aY.aby (s : aY) (p : og) : aY := s.OQ p.m
def aY.adN (s : aY) (c : vZ) : aY := (c.parts.foldl aY.aby s.bZ).jP c.err
def adO (cs : List vZ) (k : Nat) : Nat := ((cs.take k).map fun c => c.parts.length).sum
def aY.RV (s : aY) (p : og) : aY := s.FM p.m
def aY.OY (s : aY) (c : vZ) : aY := (c.parts.foldl aY.RV s.bZ).jP c.err
def aY.vN (s : aY) (p : og) : aY := if p.kd < 20 then s.FM p.m else s
def wo (ps : List og) : Prop := ∀ p ∈ ps, eP p.text
section
variable {s t : aY} {ps : List og} {cs : List vZ}
theorem MC (h : RS s) (ps : List og) (g : wo ps) : Kept s (ps.foldl aY.RV s) := by
  induction ps generalizing s with
  | nil => exact ⟨h, Fr.refl s⟩
  | cons p ps ih =>
    obtain ⟨a, b⟩ := RN (p := p.m) h (g p List.mem_cons_self)
    obtain ⟨c, d⟩ := ih a fun q hq => g q (List.mem_cons_of_mem _ hq)
    exact ⟨c, b.trans d⟩
theorem RX (h : RS s) (ps : List og) (g : wo ps) : Kept s (ps.foldl aY.vN s) := by
  induction ps generalizing s with
  | nil => exact ⟨h, Fr.refl s⟩
  | cons p ps ih =>
    have h1 : Kept s (s.vN p) := by
      unfold aY.vN; split
      · exact RN (p := p.m) h (g p List.mem_cons_self)
      · exact ⟨h, Fr.refl s⟩
    obtain ⟨c, d⟩ := ih h1.1 fun q hq => g q (List.mem_cons_of_mem _ hq)
    exact ⟨c, h1.2.trans d⟩
theorem aal (h : RS s) (c : vZ) (g : wo c.parts) : RS (s.OY c) := abw (MC (Eo h) c.parts g).1 _
theorem OZ (h : t.inn = true) (err : Int) : (t.jP err).inn = false := by
  by_cases he : err = 0
  · rw [he]; exact AZ t h
  · unfold aY.jP; rw [if_pos h, if_neg he]; rfl
theorem WM (h : RS s) (c : vZ) (g : wo c.parts) : (s.OY c).inn = false := OZ (((MC (Eo h) c.parts g).2.inn).trans (Dv s)) _
theorem RY (h : RS s) (hi : s.inn = false) (cs : List vZ) (g : ∀ c ∈ cs, wo c.parts) : RS (cs.foldl aY.OY s) ∧ (cs.foldl aY.OY s).inn = false := by
  induction cs generalizing s with
  | nil => exact ⟨h, hi⟩
  | cons c cs ih => exact ih (aal h c (g c List.mem_cons_self)) (WM h c (g c List.mem_cons_self)) fun q hq => g q (List.mem_cons_of_mem _ hq)
theorem refused (hi : s.inn = false) (h : RS s) (g : wo ps) {err : Int} (he : err ≠ 0) :
    let t := ps.foldl aY.vN s.bZ
    let a := t.jP err
    t.Di err = err ∧ a.c.L = s.c.L ∧ a.c.E = s.c.E ∧ a.c.at_ = s.c.at_ ∧ a.saved = s.saved ∧ a.kE = IntKind.i64.wrap (s.kE + 1) ∧ a.given = false ∧ a.Fj = 0 ∧
      Yl s = { Yl a with given := s.given, minus := s.minus, arg := s.arg, last := s.Fj, fr := s.frS, to := s.toS, kE := s.kE } := by
  intro t a
  obtain ⟨k1, k2⟩ := RX (Eo h) ps g
  obtain ⟨b1, b2, b3⟩ := WH hi
  obtain ⟨c1, c2, c3, c4, c5, c6⟩ := Yk (s := s) (t := t) ((k2.inn).trans (Dv s)) (k2.was.trans b1) (k2.hl.trans b2) (k2.kE.trans b3) he
  have hu : a.yg = s.yg := by
    rw [IV c5, IV hi]
    unfold aY.here
    rw [c1]
  have hs : a.saved = s.saved := by
    unfold aY.saved
    rw [c1, c2]
  refine ⟨c6, by rw [c1], by rw [c1], by rw [c1], hs, c3, c4, ?_, ?_⟩
  · unfold aY.Fj; rw [if_neg (by rw [c5]; decide), c1]
  · unfold Yl
    rw [hu, c1]
end
end Go.Proofs.YtimndnfpcomhlaaGreatDoor
end
