import Derived.Test.YtgndbccogcofjaaGreatDoorZ2
import Derived.Test.YtgndbccogcofjaaGreatDoorZ5
import Derived.Test.YtgndbccogcofjaaGreatDoorProg
import Derived.Test.YtgndbccogcofjaaGreatDoorZ3
import Derived.Test.YtgndbccogcofjaaGreatDoorZ4
set_option linter.unusedSimpArgs false
set_option linter.unusedVariables false
/- Texts of mine, joined, their names in short: Move Equal Slices Buf Buf2. -/
section
namespace Go.Proofs.YtgndbccogcofjaaGreatDoor
open Go.RowKit
open _root_.Go.Proofs.Tryz
def uP (g : Int → Bool) (l : List Int) (at_ : Nat) : Nat := at_ + ((l.drop at_).takeWhile g).length
def uQ (g : Int → Bool) (l : List Int) (at_ : Nat) : Nat := at_ - ((l.take at_).reverse.takeWhile g).length
theorem JA {g : Int → Bool} : ∀ {l : List Int} {n : Nat}, n ≤ l.length → (∀ j, j < n → g (l.getD j 0) = true) → (n = l.length ∨ g (l.getD n 0) = false) → (l.takeWhile g).length = n
  | [], n, h, _, _ => by simp at h; simp [h]
  | x :: l, 0, _, _, h => by
    rcases h with h | h
    · simp at h
    · simp at h; simp [List.takeWhile, h]
  | x :: l, n + 1, h, k, h2 => by
    have h0 := k 0 (by omega)
    simp at h0
    have ih := JA (l := l) (n := n) (by simpa using h) (fun j hj => by simpa using k (j + 1) (by omega)) (by simpa using h2)
    simp [List.takeWhile, h0, ih]
theorem FP {g : Int → Bool} {l : List Int} {i k : Nat} (h1 : i ≤ k) (h2 : k ≤ l.length) (h3 : ∀ j, i ≤ j → j < k → g (l.getD j 0) = true) (h4 : k = l.length ∨ g (l.getD k 0) = false) : uP g l i = k := by
  have := JA (g := g) (l := l.drop i) (n := k - i) (by simp; omega) (fun j hj => by
    have := h3 (i + j) (by omega) (by omega)
    simpa [List.getD_eq_getElem?_getD] using this) (by
      rcases h4 with h4 | h4
      · exact .inl (by simp; omega)
      · right
        simpa [List.getD_eq_getElem?_getD, show i + (k - i) = k from by omega] using h4)
  unfold uP
  omega
theorem back_eq {g : Int → Bool} {l : List Int} {i k : Nat} (h1 : k ≤ i) (h2 : i ≤ l.length) (h3 : ∀ j, k ≤ j → j < i → g (l.getD j 0) = true) (h4 : k = 0 ∨ g (l.getD (k - 1) 0) = false) : uQ g l i = k := by
  have e : ∀ j, j < i → (l.take i).reverse.getD j 0 = l.getD (i - 1 - j) 0 := by
    intro j hj
    rw [List.getD_eq_getElem?_getD, List.getElem?_reverse (by simp; omega), List.length_take, Nat.min_eq_left h2, List.getElem?_take_of_lt (by omega), ← List.getD_eq_getElem?_getD]
  have := JA (g := g) (l := (l.take i).reverse) (n := i - k) (by simp; omega) (fun j hj => by
    rw [e j (by omega)]; exact h3 _ (by omega) (by omega)) (by
      rcases h4 with h4 | h4
      · exact .inl (by simp; omega)
      · by_cases hk : k = 0
        · exact .inl (by simp; omega)
        · right
          rw [e _ (by omega), show i - 1 - (i - k) = k - 1 from by omega]; exact h4)
  unfold uQ
  omega
theorem FQ (g : Int → Bool) (l : List Int) {i : Nat} (h : i ≤ l.length) : i ≤ uP g l i ∧ uP g l i ≤ l.length := by
  have := (List.takeWhile_sublist g (l := l.drop i)).length_le
  simp at this
  unfold uP; omega
theorem FT (g : Int → Bool) (l : List Int) (i : Nat) : uQ g l i ≤ i := by unfold uQ; omega
def lJ (n : Nat) (x : Int) : Nat := (min (max x 0) n).toNat
theorem Cb (n : Nat) (x : Int) : lJ n x ≤ n := by unfold lJ; omega
section
variable {w0 w : World} {F G : HP} {v fv : Value} {l : List Int} {g : Int → Bool}
theorem Cc {x : Int} {a : Option Addr} {c : Nat} : fO prog 191 #[.slice a l.length c, .int .i64 x] w fun v' w' => v' = .int .i64 (lJ l.length x) ∧ w = w' := by
 refine gB func191 ntmps191 ?_
 dsimp only [bf, Nat.reduceAdd]
 refine ay (ah (aV rfl (aA (aj (ay (ah (aN rfl (aX (U6 rfl rfl) (aN rfl (aX (fJ underlying22 rfl) (aX (RS rfl rfl) (aV rfl (aA (aj (aJ (aI (.inl rfl) results191 rfl ?_))))))))))))))))
 exact ⟨by congr 1; unfold lJ; omega, rfl⟩
theorem HY {i : Nat} (H : aB w0 w (G • F)) (hf : ED prog w0 F fv g) (hr : gW w0 (G • F) .i32 v l) (hi : i ≤ l.length) :
    fO prog 197 #[v, .int .i64 i, fv] w fun v' w' => v' = .int .i64 (uP g l i) ∧ aB w0 w' (G • F) := by
  obtain ⟨a, c, rfl, hac, QD, _⟩ := (hr w H).open
  refine gB func197 ntmps197 ?_
  dsimp only [bf, Nat.reduceAdd]
  refine ay (ah (aV rfl (aA (aj (ay (bC ?_))))))
  refine iw [(0, _), (2, _)] (fun (k : Nat) => [(1, .int .i64 (k : Int))]) (fun (k : Nat) W => i ≤ k ∧ k ≤ l.length ∧ (∀ j, i ≤ j → j < k → g (l.getD j 0) = true) ∧ aB w0 W (G • F)) (fun (k : Nat) => l.length - k) (i) (Sub.cons rfl (Sub.cons rfl (Sub.nil _))) (Sub.cons rfl (Sub.nil _)) ⟨by omega, by omega, fun j h1 h2 => absurd h1 (by omega), H⟩ ?_
  rintro k w1 ⟨hk1, hk2, hk3, HL⟩
  dsimp only [List.cons_append, List.nil_append]
  refine ay (ay (ah (aN rfl (aN rfl (aX (fJ underlying22 rfl) (aX (eu rfl rfl) (fK rfl (fun h1 => ?_) (fun h1 => ?_))))))))
  · (try simp only [aH] at h1)
    try (exfalso; first | contradiction | omega)
    all_goals
      obtain ⟨a', c', hsl, _, _, hcell⟩ := (hr _ HL).open
      cases hsl
      obtain ⟨b, o, rfl, hq⟩ := hcell (by omega)
      have hqk := hq k (by omega)
      refine aZ (aN rfl (aZ (aN rfl (aZ (aN rfl (aZ (aX (iV underlying22 sizeOf21 rfl rfl (by omega)) (aZ ?_))))))))
      refine aX (nU (dK underlying21 rfl) rfl (by rw [show (k : Int).toNat * 1 = k from by omega]; exact hqk)) ?_
      refine aZ (jh (rX rfl rfl ((hf.2 _ _ HL _))) ?_)
      rintro _ w2 ⟨rfl, H2⟩
      have HN := H2
      refine fG rfl rfl (aA (aj (aO rfl (fun h2 => ?_) (fun h2 => ?_))))
      · (try simp only [aH] at h2)
        try (exfalso; first | contradiction | omega)
        all_goals
          refine aP (aj (bC (ah (aN rfl (aX (gy rfl rfl (by omega)) (aV rfl (aA (aQ ?_))))))))
          refine fE (k + 1) ?_ ?_ ?_ ?_
          · exact (Sub.cons rfl (Sub.nil _))
          · exact (Sub.cons rfl (Sub.cons rfl (Sub.nil _)))
          · (try dsimp only)
            first | done | exact ⟨by omega, by omega, fun j h4 h5 => by by_cases e : j = k; (subst e; assumption); exact hk3 j h4 (by omega), HN⟩
          · (try dsimp only); omega
      · (try simp only [aH] at h2)
        try (exfalso; first | contradiction | omega)
        all_goals
          refine eX (aY (aY (bU (aj (ay (ah (aN rfl (aV rfl (aA (aj (aJ (aI (.inl rfl) results197 rfl ?_))))))))))))
          exact ⟨by rw [FP hk1 hk2 hk3 (by first | (left; omega) | (right; assumption))], H2⟩
  · (try simp only [aH] at h1)
    try (exfalso; first | contradiction | omega)
    all_goals
      refine bD (bD (bD (bD (bD (bD (eG rfl rfl (aA (aj (nN (eX (aY (aY (bU (aj (ay (ah (aN rfl (aV rfl (aA (aj (aJ (aI (.inl rfl) results197 rfl ?_))))))))))))))))))))))
      exact ⟨by rw [FP hk1 hk2 hk3 (by first | (left; omega) | (right; assumption))], HL⟩
theorem Ia {i : Nat} (H : aB w0 w (G • F)) (hf : ED prog w0 F fv g) (hr : gW w0 (G • F) .i32 v l) (hi : i ≤ l.length) :
    fO prog 199 #[v, .int .i64 i, fv] w fun v' w' => v' = .int .i64 (uQ g l i) ∧ aB w0 w' (G • F) := by
  obtain ⟨a, c, rfl, hac, QD, _⟩ := (hr w H).open
  refine gB func199 ntmps199 ?_
  dsimp only [bf, Nat.reduceAdd]
  refine ay (ah (aV rfl (aA (aj (ay (bC ?_))))))
  refine iw [(0, _), (2, _)] (fun (k : Nat) => [(1, .int .i64 (k : Int))]) (fun (k : Nat) W => k ≤ i ∧ (∀ j, k ≤ j → j < i → g (l.getD j 0) = true) ∧ aB w0 W (G • F)) (fun (k : Nat) => k) (i) (Sub.cons rfl (Sub.cons rfl (Sub.nil _))) (Sub.cons rfl (Sub.nil _)) ⟨by omega, fun j h1 h2 => absurd h1 (by omega), H⟩ ?_
  rintro k w1 ⟨hk1, hk3, HL⟩
  dsimp only [List.cons_append, List.nil_append]
  refine ay (ay (ah (aN rfl (aX (dn rfl rfl) (fK rfl (fun h1 => ?_) (fun h1 => ?_))))))
  · (try simp only [aH] at h1)
    try (exfalso; first | contradiction | omega)
    all_goals
      obtain ⟨a', c', hsl, _, _, hcell⟩ := (hr _ HL).open
      cases hsl
      obtain ⟨b, o, rfl, hq⟩ := hcell (by omega)
      have hqk := hq (k - 1) (by omega)
      refine aZ (aN rfl (aZ (aN rfl (aZ (aN rfl (aZ (aX (iG rfl rfl (by omega)) (aZ (aX (iV underlying22 sizeOf21 rfl rfl (by omega)) (aZ ?_))))))))))
      refine aX (nU (dK underlying21 rfl) rfl (by rw [show ((k : Int) - 1).toNat * 1 = k - 1 from by omega]; exact hqk)) ?_
      refine aZ (jh (rX rfl rfl ((hf.2 _ _ HL _))) ?_)
      rintro _ w2 ⟨rfl, H2⟩
      have HN := H2
      refine fG rfl rfl (aA (aj (aO rfl (fun h2 => ?_) (fun h2 => ?_))))
      · (try simp only [aH] at h2)
        try (exfalso; first | contradiction | omega)
        all_goals
          refine aP (aj (bC (ah (aN rfl (aX (iG rfl rfl (by omega)) (aV rfl (aA (aQ ?_))))))))
          refine fE (k - 1) ?_ ?_ ?_ ?_
          · exact (Sub.yg rfl (by rw [show ((k - 1 : Nat) : Int) = (k : Int) - 1 from by omega]) (Sub.nil _))
          · exact (Sub.cons rfl (Sub.cons rfl (Sub.nil _)))
          · (try dsimp only)
            first | done | exact ⟨by omega, fun j h4 h5 => by by_cases e : j = k - 1; (subst e; assumption); exact hk3 j (by omega) h5, HN⟩
          · (try dsimp only); omega
      · (try simp only [aH] at h2)
        try (exfalso; first | contradiction | omega)
        all_goals
          refine eX (aY (aY (bU (aj (ay (ah (aN rfl (aV rfl (aA (aj (aJ (aI (.inl rfl) results199 rfl ?_))))))))))))
          exact ⟨by rw [back_eq hk1 hi hk3 (by first | (left; omega) | (right; assumption))], H2⟩
  · (try simp only [aH] at h1)
    try (exfalso; first | contradiction | omega)
    all_goals
      refine bD (bD (bD (bD (bD (bD (bD (eG rfl rfl (aA (aj (nN (eX (aY (aY (bU (aj (ay (ah (aN rfl (aV rfl (aA (aj (aJ (aI (.inl rfl) results199 rfl ?_)))))))))))))))))))))))
      exact ⟨by rw [back_eq hk1 hi hk3 (by first | (left; omega) | (right; assumption))], HL⟩
theorem pI (hT : tZ w0) : ED prog w0 F (.func (.func 137) #[] #[]) bH :=
  ⟨rfl, fun G W HW r => ⟨137, [], [], _, _, rfl, func137, rfl, rfl, Jv HW hT⟩⟩
theorem MQ {v : Value} (h : v.oneCell' = true) : v.cells = #[v] := by cases v <;> simp_all [Value.cells, Value.oneCell']
theorem Ot {b : Nat} {r : Int} (H : aB w0 w (G • dB b (.cells #[fv] 143 (0, 0)) • F)) (hf : ED prog w0 F fv g) :
  fO prog 230 #[.int .i32 r, .pointer (some ⟨b, 0, none⟩)] w fun v w' => v = .bool (!g r) ∧ aB w0 w' (G • dB b (.cells #[fv] 143 (0, 0)) • F) := by
 refine gB func230 ntmps230 ?_
 dsimp only [bf, Nat.reduceAdd]
 refine ay (ah (aV rfl (aA (aj (ay (ah (dV underlying143 rfl H.swap.get.2 rfl (aN rfl (jh (rX rfl rfl ((hf.2 (G • dB b (.cells #[fv] 143 (0, 0))) _ H.deep _))) ?_)))))))))
 rintro _ w1 ⟨rfl, H1⟩
 refine aX (kF rfl) (aV rfl (aA (aj (aJ (aI (.inl rfl) results230 rfl ?_)))))
 exact ⟨rfl, H1.flat⟩
theorem KX (H : aB w0 w F) (h1 : fv.oneCell' = true) : fO prog 198 #[fv] w fun v w' => ∃ b, v = .func (.func 230) #[] #[.pointer (some ⟨b, 0, none⟩)] ∧ aB w0 w' (dB b (.cells #[fv] 143 (0, 0)) • F) := by
 refine gB func198 ntmps198 ?_
 dsimp only [bf, Nat.reduceAdd]
 refine ay (ah (jh (KJ H rfl) ?_))
 rintro _ w1 ⟨b1, rfl, H1⟩
 refine aV rfl (aA (aj (ay (ah (aX (tN rfl rfl) (aV rfl (aA (aj (aJ (aI (.inl rfl) results198 rfl ?_))))))))))
 exact ⟨b1, rfl, by rw [MQ h1] at H1; exact H1⟩
theorem EK {b : Nat} (hf : ED prog w0 F fv g) : ED prog w0 (dB b (.cells #[fv] 143 (0, 0)) • F) (.func (.func 230) #[] #[.pointer (some ⟨b, 0, none⟩)]) (fun r => !g r) :=
  ⟨rfl, fun G W HW r => ⟨230, [], [.pointer (some ⟨b, 0, none⟩)], _, _, rfl, func230, rfl, rfl, Ot HW hf⟩⟩
def qg (l : List Int) (x : Int) : Nat := uP bH l (uP (fun r => !bH r) l (lJ l.length x))
def lM (l : List Int) (x : Int) : Nat := uQ bH l (uQ (fun r => !bH r) l (lJ l.length x))
theorem FU {x : Int} (H : aB w0 w F) (hT : tZ w0) (hr : gW w0 F .i32 v l) :
  fO prog 129 #[v, .int .i64 x] w fun v' w' => v' = .int .i64 (qg l x) ∧ aB w0 w' F := by
 obtain ⟨a, c, hv, hac, QD, _⟩ := (hr w H).open
 subst hv
 have hw := Cb l.length x
 have ho := FQ (fun r => !bH r) l hw
 refine gB func129 ntmps129 ?_
 dsimp only [bf, Nat.reduceAdd]
 refine ay (ah (aV rfl (aA (aj (ay (ah (aN rfl (aN rfl (aN rfl (aN rfl (bZ rfl func191 (Cc) ?_)))))))))))
 rintro _ _ ⟨rfl, rfl⟩
 refine bZ rfl func198 (KX H rfl) ?_
 rintro _ w2 ⟨bn, rfl, H2⟩
 refine bZ rfl func197 ((HY (G := emp) H2.AV (EK (pI hT)) hr.under.under hw)) ?_
 rintro _ w3 ⟨rfl, H3⟩
 refine bZ rfl func197 ((HY (G := emp • dB bn _) H3.deep (pI hT) hr.under ho.2)) ?_
 rintro _ w4 ⟨rfl, H4⟩
 refine aV rfl (aA (aj (aJ (aI (.inl rfl) results129 rfl ?_))))
 exact ⟨rfl, H4.right⟩
theorem Ce {x : Int} (H : aB w0 w F) (hT : tZ w0) (hr : gW w0 F .i32 v l) :
  fO prog 130 #[v, .int .i64 x] w fun v' w' => v' = .int .i64 (lM l x) ∧ aB w0 w' F := by
 obtain ⟨a, c, hv, hac, QD, _⟩ := (hr w H).open
 subst hv
 have hw := Cb l.length x
 have ho := FT (fun r => !bH r) l (lJ l.length x)
 refine gB func130 ntmps130 ?_
 dsimp only [bf, Nat.reduceAdd]
 refine ay (ah (aV rfl (aA (aj (ay (ah (aN rfl (aN rfl (aN rfl (aN rfl (bZ rfl func191 (Cc) ?_)))))))))))
 rintro _ _ ⟨rfl, rfl⟩
 refine bZ rfl func198 (KX H rfl) ?_
 rintro _ w2 ⟨bn, rfl, H2⟩
 refine bZ rfl func199 ((Ia (G := emp) H2.AV (EK (pI hT)) hr.under.under hw)) ?_
 rintro _ w3 ⟨rfl, H3⟩
 refine bZ rfl func199 ((Ia (G := emp • dB bn _) H3.deep (pI hT) hr.under (by omega))) ?_
 rintro _ w4 ⟨rfl, H4⟩
 refine aV rfl (aA (aj (aJ (aI (.inl rfl) results130 rfl ?_))))
 exact ⟨rfl, H4.right⟩
def KY (r : Int) : Bool := decide (vJ r ≠ 0) || gX r
def aac (l : List Int) (x : Int) : Nat := if lJ l.length x < l.length then uP (fun r => !KY r) l (lJ l.length x + 1) else l.length
def aad (l : List Int) (x : Int) : Nat := uQ (fun r => !KY r) l (lJ l.length x) - 1
end
end Go.Proofs.YtgndbccogcofjaaGreatDoor
end
section
namespace Go.Proofs.YtgndbccogcofjaaGreatDoor
open Go.RowKit
theorem FV {l m : List Int} {i : Nat} (h1 : i < l.length) (h2 : i < m.length) (h : l.take i = m.take i) (e : l.getD i 0 = m.getD i 0) : l.take (i + 1) = m.take (i + 1) := by
  rw [List.take_succ_eq_append_getElem h1, List.take_succ_eq_append_getElem h2, h]
  simp [List.getD_eq_getElem?_getD, h1, h2] at e
  rw [e]
end Go.Proofs.YtgndbccogcofjaaGreatDoor
end
section
namespace Go.Proofs.YtgndbccogcofjaaGreatDoor
open Go.RowKit
open _root_.Go.Proofs.Tryz
theorem yE : (prog.info? 21).map (fun i => (i.zero, i.size, i.bytes)) = some (some (.int .i32 0), 1, 4) := by kernel_rfl
theorem lS {w0 w : World} {F : HP} {v : Value} {l : List Int} (H : aB w0 w F) (hr : gW w0 F .i32 v l) (hb : l.length * 4 ≤ 140737488355328) :
    fO prog 178 #[v] w fun v' w' => aB w0 w' (iU 21 .i32 v' l • F) := by
  obtain ⟨a, c, rfl, h1, h2, h3⟩ := (hr w H).open
  refine gB func178 ntmps178 ?_
  dsimp only [bf, Nat.reduceAdd]
  refine ay (ah (aV rfl (aA (aj (ay (ay (ah (aN rfl (aX (vC underlying22 rfl rfl) (aA (aj (aO rfl (fun h1 => ?_) (fun h1 => ?_)))))))))))))
  · (try simp only [aH] at h1)
    try (exfalso; first | contradiction | omega)
    all_goals
      refine ay (ah (aV rfl (aA (aj (aJ (aK (aI (.inl rfl) results178 rfl ?_)))))))
      obtain rfl : a = none := by simpa using h1
      obtain rfl : l = [] := by
        cases l with
        | nil => rfl
        | cons x l => obtain ⟨b, o, e, _⟩ := h3 (by simp); cases e
      exact H.jo none
  · (try simp only [aH] at h1)
    try (exfalso; first | contradiction | omega)
    all_goals
      refine aP (aj (ay (ah (jh (nV (vs := []) H underlying22 sizeOf21 zeroValue21 rfl rfl rfl (by decide) (by simp)) ?_))))
      rintro _ w1 H1
      refine aN rfl (jh (wX (l := []) H1 (hr.under _ H1) underlying22 yE rfl rfl (by simp; omega) (by simpa using hb)) ?_)
      rintro _ w2 H2
      refine aV rfl (aA (aj (aJ (aI (.inl rfl) results178 rfl ?_))))
      exact H2
theorem Ou {w0 w : World} {F : HP} {n : Int} (H : aB w0 w F) (h0 : 0 ≤ n) (hb : n ≤ 70368744177664) :
  fO prog 196 #[.slice none 0 0, .int .i64 n] w fun v' w' => aB w0 w' (iU 21 .i32 v' [] • F) := by
 refine gB func196 ntmps196 ?_
 dsimp only [bf, Nat.reduceAdd]
 refine ay (ah (aV rfl (aA (aj (ay (ay (ah (aN rfl (aX (eu rfl rfl) (aA (aj (aO rfl (fun h => by exfalso; (try simp only [aH] at h); first | contradiction | omega | (simp at h <;> omega)) (fun h1 => ?_)))))))))))))
 (try simp only [aH] at h1)
 refine aP (aj (ay (ay (ah (aN rfl (aN rfl (aX (RQ underlying22 rfl) (aN rfl (aX (fJ underlying22 rfl) (aX (iG rfl rfl (by omega)) (aX (iG rfl rfl (by omega)) (aV rfl (aA (aj (ay (ah (aN rfl (aX (dn rfl rfl) (aA (aj (aO rfl (fun h2 => ?_) (fun h2 => ?_))))))))))))))))))))))
 ·(try simp only [aH] at h2)
  try (exfalso; first | contradiction | omega)
  all_goals
   refine ah (aN rfl (aN rfl (aX (RQ underlying22 rfl) (aX (oC underlying22 sizeOf21 rfl rfl rfl (by omega)) (aN rfl (jh (BJ H underlying22 underlying3 yE rfl rfl (by omega) (by omega) (by omega)) ?_))))))
   rintro _ w1 ⟨g, c, cur, rfl, hc1, hc2, hc3, H1⟩
   refine aN rfl (aX (fJ underlying22 rfl) (aX (oC underlying22 sizeOf21 rfl rfl rfl (by omega)) (aV rfl (aA (aj (ay (ah (aN rfl (aV rfl (aA (aj (aJ (aI (.inl rfl) results196 rfl ?_)))))))))))))
   exact H1.tY (o := 0) (by simp) (Ez 1 0 g 0 _ c) (by simp) hc2 (by simpa using hc3) (by simp)
 ·(try simp only [aH] at h2)
  try (exfalso; first | contradiction | omega)
  all_goals
   refine aP (aj (ay (ah (aN rfl (aV rfl (aA (aj (aJ (aI (.inl rfl) results196 rfl ?_)))))))))
   exact H.jo none
theorem JB {w0 w : World} {F : HP} {v : Value} {vs : List Value} {ls : List (List Int)} (H : aB w0 w F) (hv : Jk w0 F 1 v ls.length vs) (hls : ∀ k, k < ls.length → gW w0 F .i32 (vs.getD k undef) (ls.getD k [])) (hb : ls.flatten.length * 4 ≤ 140737488355328) :
  fO prog 128 #[v] w fun v' w' => aB w0 w' (iU 21 .i32 v' ls.flatten • F) := by
 obtain ⟨_, a, c, rfl, hc1, hc2, _⟩ := hv w H
 refine gB func128 ntmps128 ?_
 dsimp only [bf, Nat.reduceAdd]
 refine ay (ah (aV rfl (aA (aj (ay (ah (aV rfl (aA (aj (ay (ay (ah (aN rfl (aX (fJ underlying54 rfl) (aN rfl (aA (aj (bC ?_))))))))))))))))))
 refine iw [(0, _), (9, _), (10, _)] (fun (k : Nat) => [(3, .int .i64 ((ls.take k).flatten.length : Int)), (11, .int .i64 (k : Int))]) (fun (k : Nat) W => k ≤ ls.length ∧ aB w0 W F) (fun (k : Nat) => ls.length - k) (0) (Sub.cons rfl (Sub.cons rfl (Sub.cons rfl (Sub.nil _)))) (Sub.yg rfl (by simp) (Sub.yg rfl (rfl) (Sub.nil _))) ⟨by omega, H⟩ ?_
 rintro k w1 ⟨hk, HL⟩
 dsimp only [List.cons_append, List.nil_append]
 refine ay (ah (aX (eu rfl rfl) (aA (aj (ay (aO rfl (fun h1 => ?_) (fun h1 => ?_)))))))
 ·(try simp only [aH] at h1)
  try (exfalso; first | contradiction | omega)
  all_goals
   refine aP (aj (ay (bC (ay ?_))))
   have hk1 : k < ls.length := by omega
   obtain ⟨b, o, rfl, hc⟩ := hv.cell HL (j := k) (by omega)
   obtain ⟨ak, ck, ek, hk2, hk3, _⟩ := (hls k hk1 _ HL).open
   rw [ek] at hc
   have hfl := Fz ls (k + 1)
   rw [wI ls hk1, List.length_append] at hfl
   refine ah (aX (iV underlying54 sizeOf22 rfl rfl (by omega)) ?_)
   refine aX (nU (dK underlying22 rfl) rfl (by rw [show ((k : Int).toNat * 1) = k from by omega]; exact hc)) ?_
   refine aV rfl (aA (aj (ay (ah (aN rfl (aN rfl (aX (fJ underlying22 rfl) (aX (gy rfl rfl (by omega)) (aV rfl (aA (aj (ay (ah (aN rfl (aX (eu rfl rfl) (aA (aj (aO rfl (fun h => by exfalso; (try simp only [aH] at h); first | contradiction | omega | (simp at h <;> omega)) (fun h2 => ?_)))))))))))))))))))
   (try simp only [aH] at h2)
   refine aP (aQ (aj (ah (aX (gy rfl rfl (by omega)) (aN rfl (aA ?_))))))
   refine fE (k + 1) ?_ ?_ ?_ ?_
   ·exact (Sub.yg rfl (by rw [wI ls hk1, List.length_append, Int.natCast_add]) (Sub.cons rfl (Sub.nil _)))
   ·exact (Sub.cons rfl (Sub.cons rfl (Sub.cons rfl (Sub.nil _))))
   ·(try dsimp only)
    first | done | exact ⟨by omega, HL⟩
   ·(try dsimp only); omega
 ·(try simp only [aH] at h1)
  try (exfalso; first | contradiction | omega)
  all_goals
   refine eX (aY (aY (bU (aj (ay (ah (aN rfl (bZ rfl func196 (Ou HL (by omega) (by have := Fz ls k; omega)) ?_))))))))
   rintro vg w2 H2
   refine aV rfl (aA (aj (ay (ay (ah (aN rfl (aX (fJ underlying54 rfl) (aN rfl (aA (aj (bC ?_)))))))))))
   refine iw [(25, _), (26, _)] (fun (⟨k, u⟩ : Nat × Value) => [(6, u), (27, .int .i64 (k : Int))]) (fun (⟨k, u⟩ : Nat × Value) W => k ≤ ls.length ∧ aB w0 W (iU 21 .i32 u (ls.take k).flatten • F)) (fun (⟨k, u⟩ : Nat × Value) => ls.length - k) ((0, vg)) (Sub.cons rfl (Sub.cons rfl (Sub.nil _))) (Sub.cons rfl (Sub.cons rfl (Sub.nil _))) ⟨by omega, H2⟩ ?_
   rintro ⟨k, u⟩ w3 ⟨hk, HM⟩
   dsimp only [List.cons_append, List.nil_append]
   refine ay (ah (aX (eu rfl rfl) (aA (aj (ay (aO rfl (fun h3 => ?_) (fun h3 => ?_)))))))
   ·(try simp only [aH] at h3)
    try (exfalso; first | contradiction | omega)
    all_goals
     refine aP (aj (ay (bC (ay ?_))))
     have hk1 : k < ls.length := by omega
     obtain ⟨b, o, rfl, hc⟩ := hv.cell HM.right (j := k) (by omega)
     have hrk := hls k hk1
     have hfl := Fz ls (k + 1)
     rw [wI ls hk1, List.length_append] at hfl
     refine ah (aX (iV underlying54 sizeOf22 rfl rfl (by omega)) ?_)
     refine aX (nU (dK underlying22 rfl) rfl (by rw [show ((k : Int).toNat * 1) = k from by omega]; exact hc)) ?_
     refine aV rfl (aA (aj (ah (aN rfl (aN rfl (jh (wX HM (hrk _ HM.right) underlying22 yE rfl rfl (by omega) (by omega)) ?_))))))
     rintro va w4 H4
     refine aV rfl (aA (aQ (aj (ah (aX (gy rfl rfl (by omega)) (aN rfl (aA ?_)))))))
     refine fE ((k + 1, va)) ?_ ?_ ?_ ?_
     ·exact (Sub.cons rfl (Sub.cons rfl (Sub.nil _)))
     ·exact (Sub.cons rfl (Sub.cons rfl (Sub.nil _)))
     ·(try dsimp only)
      first | done | exact ⟨by omega, by rw [wI ls hk1]; exact H4⟩
     ·(try dsimp only); omega
   ·(try simp only [aH] at h3)
    try (exfalso; first | contradiction | omega)
    all_goals
     refine eX (aY (aY (bU (aj (ay (ah (aN rfl (aV rfl (aA (aj (aJ (aI (.inl rfl) results128 rfl ?_))))))))))))
     rw [List.take_of_length_le (by omega)] at HM; exact HM
theorem vK {w0 w : World} {F : HP} {b : Nat} {T : TypeId} {u1 u2 : Value} {l1 l2 : List Int} (H : aB w0 w (dB b (.cells #[u1, u2] T (0, 0)) • F)) (h1 : gW w0 (dB b (.cells #[u1, u2] T (0, 0)) • F) .i32 u1 l1) (h2 : gW w0 (dB b (.cells #[u1, u2] T (0, 0)) • F) .i32 u2 l2)
    (hb : (l1.length + l2.length) * 4 ≤ 140737488355328) :
    fO prog 128 #[.slice (some ⟨b, 0, none⟩) 2 2] w fun v' w' => aB w0 w' (iU 21 .i32 v' (l1 ++ l2) • dB b (.cells #[u1, u2] T (0, 0)) • F) := by
  have := JB (ls := [l1, l2]) (vs := [u1, u2]) (v := .slice (some ⟨b, 0, none⟩) 2 2) H (fun W HW => ⟨rfl, _, 2, rfl, by simp, by decide, fun _ => ⟨b, 0, rfl, fun j hj => ?_⟩⟩) (fun k hk => ?_) (by simpa using hb)
  · simpa using this
  · refine fV HW.get.2 ?_
    simp at hj
    match j, hj with
    | 0, _ => rfl
    | 1, _ => rfl
  · simp at hk
    match k, hk with
    | 0, _ => exact h1
    | 1, _ => exact h2
end Go.Proofs.YtgndbccogcofjaaGreatDoor
end
section
namespace Go.Proofs.YtgndbccogcofjaaGreatDoor
open Go.RowKit
open _root_.Go.Proofs.Tryz
theorem Ib {s i j : Nat} {v : Value} (h : v.oneCell' = true) : (lZ s i j v).oneCell' = true := by cases v <;> simp_all [lZ, Value.oneCell']
def dN (v : Value) (f t pt mk : Int) : Array Value := #[.bool true, v, .int .i64 f, .int .i64 t, .int .i64 pt, .int .i64 mk]
theorem QE {a b : Value} (h : a.oneCell' = true) (k : b.oneCell' = true) : ∀ u ∈ [a, b], u.oneCell' = true := by
  intro u hu; simp at hu; rcases hu with rfl | rfl
  · exact h
  · exact k
section
variable {v u : Value} {f t pt mk x : Int}
theorem iK : (dN v f t pt mk).size = 6 := rfl
theorem MR : (dN v f t pt mk).setIfInBounds 1 u = dN u f t pt mk := rfl
theorem ug : (dN v f t pt mk).setIfInBounds 2 (.int .i64 x) = dN v x t pt mk := rfl
theorem xH : (dN v f t pt mk).setIfInBounds 3 (.int .i64 x) = dN v f x pt mk := rfl
theorem rF : (dN v f t pt mk).setIfInBounds 4 (.int .i64 x) = dN v f t x mk := rfl
theorem kR : (dN v f t pt mk).setIfInBounds 5 (.int .i64 x) = dN v f t pt x := rfl
end
def dL (p : Nat) (L : List Int) (pt mk : Int) : HP := rD fun (x : Value × List Int × Nat × Nat) =>
  fact (x.2.2.1 ≤ x.2.2.2 ∧ x.2.2.2 ≤ x.2.1.length ∧ L = x.2.1.take x.2.2.1 ++ x.2.1.drop x.2.2.2 ∧ L.length ≤ 1024 ∧ x.2.1.length ≤ 4096 ∧ (0 ≤ pt ∧ pt ≤ L.length) ∧ (-1 ≤ mk ∧ mk ≤ L.length)) •
    dB p (.cells (dN x.1 x.2.2.1 x.2.2.2 pt mk) 184 (0, 0)) • iU 21 .i32 x.1 x.2.1
section
variable {w0 w : World} {F : HP} {p : Nat} {L : List Int} {pt mk : Int}
theorem aB.buf (H : aB w0 w (dL p L pt mk • F)) : ∃ (a : Option Addr) (c : Nat) (xs : List Int) (f t : Nat), f ≤ t ∧ t ≤ xs.length ∧ L = xs.take f ++ xs.drop t ∧ L.length ≤ 1024 ∧ xs.length ≤ 4096 ∧ (0 ≤ pt ∧ pt ≤ L.length) ∧ (-1 ≤ mk ∧ mk ≤ L.length) ∧ xs.length ≤ c ∧ (c : Int) ≤ 9223372036854775807 ∧ L.length + t = xs.length + f ∧
    aB w0 w (dB p (.cells (dN (.slice a xs.length c) f t pt mk) 184 (0, 0)) • iU 21 .i32 (.slice a xs.length c) xs • F) := by
  obtain ⟨⟨v, xs, f, t⟩, H⟩ := H.lK
  obtain ⟨⟨h1, h2, h3, h4, h5, h6, h7⟩, H⟩ := H.flat.fact
  have H := H.flat
  obtain ⟨a, c, hv, hc1, hc2, _⟩ := (H.swap.aT).form
  dsimp only at *
  subst hv
  refine ⟨a, c, xs, f, t, h1, h2, h3, h4, h5, h6, h7, hc1, hc2, ?_, H⟩
  rw [h3]; simp; omega
theorem aB.jH {v : Value} {xs : List Int} {f t : Nat} (h1 : f ≤ t) (h2 : t ≤ xs.length) (h3 : L = xs.take f ++ xs.drop t) (h4 : L.length ≤ 1024) (h5 : xs.length ≤ 4096) (h6 : 0 ≤ pt ∧ pt ≤ L.length) (h7 : -1 ≤ mk ∧ mk ≤ L.length)
    (H : aB w0 w (dB p (.cells (dN v f t pt mk) 184 (0, 0)) • iU 21 .i32 v xs • F)) : aB w0 w (dL p L pt mk • F) :=
  aB.gY (v, xs, f, t) (aB.deep (aB.jF ⟨h1, h2, h3, h4, h5, h6, h7⟩ (aB.deep H)))
theorem mF (t : TypeId) {cs : Array Value} {fr : Nat × Nat} {m : Bool} (hb : w.heap[p]? = some (.cells cs t fr)) (h0 : cs[0]? = some (.bool m)) :
  fO prog 185 #[.pointer (some ⟨p, 0, none⟩)] w fun v w' => v = .bool (!m) ∧ w = w' := by
 refine gB func185 ntmps185 ?_
 dsimp only [bf, Nat.reduceAdd]
 refine ay (ah (aV rfl (aA (aj (ay (ah (aN rfl (aX (fA underlying27 rfl rfl) (fK rfl (fun h => by exfalso; (try simp only [aH] at h); simp at h) (fun h1 => ?_))))))))))
 (try simp only [aH] at h1)
 refine aZ (aN rfl (aZ (bP rfl (aZ (bF 0 underlying184 rfl sizeOf4 rfl (aZ (dV underlying4 rfl hb h0 (aZ (aX (kF rfl) (eG rfl rfl (aV rfl (aA (aj (aJ (aI (.inl rfl) results185 rfl ?_)))))))))))))))
 exact ⟨rfl, rfl⟩
theorem kH (H : aB w0 w (dL p L pt mk • F)) : fO prog 186 #[.pointer (some ⟨p, 0, none⟩)] w fun v w' => v = .int .i64 L.length ∧ qF w w' := by
 obtain ⟨a, c, xs, f, t, h1, h2, h3, h4, h5, h6, h7, hc1, hc2, hl, H1⟩ := H.buf
 have hb := H1.get.2
 refine gB func186 ntmps186 ?_
 dsimp only [bf, Nat.reduceAdd]
 refine ay (ah (aV rfl (aA (aj (ay (ay (ah (aN rfl (bZ rfl func185 (mF _ hb rfl) ?_)))))))))
 rintro _ _ ⟨rfl, rfl⟩
 refine aA (aj (nN (aP (aj (ay ?_)))))
 refine jT (n := 16) [0, 1, 2, 3, 4, 5, 6, 7, 8, 9, 10, 11, 12, 13, 14, 15] (fun W => W.heap = w.heap) (by kernel_rfl) (by kernel_rfl) rfl ?_
 have hS0 : (fun W => W.heap = w.heap) (w.drew) := rfl
 have H3d := H1.drew
 refine iF 0 rfl hS0 rfl (jQ 1 rfl hS0 rfl (gV 2 rfl hS0 1 underlying184 rfl sizeOf22 rfl ?_))
 refine jk 3 rfl hS0 (fun W hW => jP underlying22 rfl (by rw [hW]; exact hb) rfl) ?_
 refine jg 4 rfl hS0 (fun _ => fJ underlying22 rfl) (iF 5 rfl hS0 rfl (jQ 6 rfl hS0 rfl (gV 7 rfl hS0 3 underlying184 rfl sizeOf3 rfl ?_)))
 refine jk 8 rfl hS0 (fun W hW => jP underlying3 rfl (by rw [hW]; exact hb) rfl) ?_
 refine iF 9 rfl hS0 rfl (jQ 10 rfl hS0 rfl (gV 11 rfl hS0 2 underlying184 rfl sizeOf3 rfl ?_))
 refine jk 12 rfl hS0 (fun W hW => jP underlying3 rfl (by rw [hW]; exact hb) rfl) ?_
 refine jg 13 rfl hS0 (fun _ => iG rfl rfl (by omega)) (jg 14 rfl hS0 (fun _ => iG rfl rfl (by omega)) (jg 15 rfl hS0 (fun _ => gG rfl) (pO (aj (aJ (aI (.inl rfl) results186 rfl ?_))))))
 exact ⟨by congr 1; omega, qF.refl _ |>.drew⟩
theorem oD (H : aB w0 w (dL p L pt mk • F)) : fO prog 113 #[.pointer (some ⟨p, 0, none⟩)] w fun v w' => v = .int .i64 pt ∧ w = w' := by
 obtain ⟨a, c, xs, f, t, h1, h2, h3, h4, h5, h6, h7, hc1, hc2, hl, H1⟩ := H.buf
 have hb := H1.get.2
 refine gB func113 ntmps113 ?_
 dsimp only [bf, Nat.reduceAdd]
 refine ay (ah (aV rfl (aA (aj (ay (ay (ah (aN rfl (bZ rfl func185 (mF _ hb rfl) ?_)))))))))
 rintro _ _ ⟨rfl, rfl⟩
 refine aA (aj (nN (aP (aj (ay (ah (aN rfl (bP rfl (bF 4 underlying184 rfl sizeOf3 rfl (dV underlying3 rfl hb rfl (aV rfl (aA (aj (aJ (aI (.inl rfl) results113 rfl ?_)))))))))))))))
 exact ⟨rfl, rfl⟩
theorem FW (H : aB w0 w (dL p L pt mk • F)) : fO prog 114 #[.pointer (some ⟨p, 0, none⟩)] w fun v w' => v = .int .i64 mk ∧ w = w' := by
 obtain ⟨a, c, xs, f, t, h1, h2, h3, h4, h5, h6, h7, hc1, hc2, hl, H1⟩ := H.buf
 have hb := H1.get.2
 refine gB func114 ntmps114 ?_
 dsimp only [bf, Nat.reduceAdd]
 refine ay (ah (aV rfl (aA (aj (ay (ay (ah (aN rfl (bZ rfl func185 (mF _ hb rfl) ?_)))))))))
 rintro _ _ ⟨rfl, rfl⟩
 refine aA (aj (nN (aP (aj (ay (ah (aN rfl (bP rfl (bF 5 underlying184 rfl sizeOf3 rfl (dV underlying3 rfl hb rfl (aV rfl (aA (aj (aJ (aI (.inl rfl) results114 rfl ?_)))))))))))))))
 exact ⟨rfl, rfl⟩
theorem pJ (H : aB w0 w (dL p L pt mk • F)) : fO prog 112 #[.pointer (some ⟨p, 0, none⟩)] w fun v w' => aB w0 w' (iU 21 .i32 v L • dL p L pt mk • F) := by
 obtain ⟨a, c, xs, f, t, h1, h2, h3, h4, h5, h6, h7, hc1, hc2, hl, H1⟩ := H.buf
 have hb := H1.get.2
 refine gB func112 ntmps112 ?_
 dsimp only [bf, Nat.reduceAdd]
 refine ay (ah (aV rfl (aA (aj (ay (ay (ah (aN rfl (bZ rfl func185 (mF _ hb rfl) ?_)))))))))
 rintro _ _ ⟨rfl, rfl⟩
 refine aA (aj (nN (aP (aj (ay ?_)))))
 refine jT (n := 21) [0, 1, 2, 3, 4, 5, 6, 7, 8, 9, 10, 11, 12, 13, 14, 15, 16, 17, 18, 19, 20] (fun W => W.heap[p]? = some (.cells (dN (.slice a xs.length c) f t pt mk) 184 (0, 0))) (by kernel_rfl) (by kernel_rfl) rfl ?_
 have hS0 : (fun W => W.heap[p]? = some (.cells (dN (.slice a xs.length c) f t pt mk) 184 (0, 0))) (w.drew) := hb
 have H3d := H1.drew
 refine iF 0 rfl hS0 rfl (jQ 1 rfl hS0 rfl (gV 2 rfl hS0 1 underlying184 rfl sizeOf22 rfl (jk 3 rfl hS0 (fun W hW => jP underlying22 rfl hW rfl) (iF 4 rfl hS0 rfl (jQ 5 rfl hS0 rfl (gV 6 rfl hS0 2 underlying184 rfl sizeOf3 rfl (jk 7 rfl hS0 (fun W hW => jP underlying3 rfl hW rfl) (jg 8 rfl hS0 (fun _ => oC underlying22 sizeOf21 rfl rfl rfl (by omega)) (iF 9 rfl hS0 rfl (jQ 10 rfl hS0 rfl (gV 11 rfl hS0 1 underlying184 rfl sizeOf22 rfl (jk 12 rfl hS0 (fun W hW => jP underlying22 rfl hW rfl) (iF 13 rfl hS0 rfl (jQ 14 rfl hS0 rfl (gV 15 rfl hS0 3 underlying184 rfl sizeOf3 rfl (jk 16 rfl hS0 (fun W hW => jP underlying3 rfl hW rfl) (jg 17 rfl hS0 (fun _ => oC underlying22 sizeOf21 rfl rfl rfl (by omega)) (kE 18 rfl (KL (vs := [lZ 1 0 f (.slice a xs.length c), lZ 1 t xs.length (.slice a xs.length c)]) H3d underlying54 sizeOf22 zeroValue22 rfl rfl rfl (by decide) (QE (Ib rfl) (Ib rfl))) ?_))))))))))))))))))
 rintro _ w2 ⟨b2, rfl, H2⟩
 have hS2 : (fun W => W.heap[p]? = some (.cells (dN (.slice a xs.length c) f t pt mk) 184 (0, 0))) w2 := H2.swap.get.2
 refine yt hS2 ?_
 refine kE 19 rfl (wW rfl func128 (vK (l1 := xs.take f) (l2 := xs.drop t) H2 (fun W HW => kD.upto HW.DW.aT (by omega)) (fun W HW => kD.from HW.DW.aT (by omega)) (by simp; omega))) ?_
 rintro u w3 H3
 have hS3 : (fun W => W.heap[p]? = some (.cells (dN (.slice a xs.length c) f t pt mk) 184 (0, 0))) w3 := H3.DW.get.2
 refine yt hS3 ?_
 refine jg 20 rfl hS3 (fun _ => gG rfl) (pO (aj (aJ (aI (.inl rfl) results112 rfl ?_))))
 rw [← h3] at H3
 exact (aB.jH h1 h2 h3 h4 h5 h6 h7 H3.swap.right.d3).swap
theorem Ic {v : Value} {l : List Int} (H : aB w0 w F) (hr : gW w0 F .i32 v l) (hl : l.length ≤ 1024) : fO prog 184 #[v] w fun v' w' => ∃ p, v' = .tuple #[.pointer (some ⟨p, 0, none⟩), .int .i64 0] ∧ aB w0 w' (dL p l l.length (-1) • F) := by
 obtain ⟨a, c, rfl, _, _, _⟩ := (hr w H).open
 refine gB func184 ntmps184 ?_
 dsimp only [bf, Nat.reduceAdd]
 refine ay (ah (aV rfl (aV rfl (aA (aj (ay (ay (ah (aN rfl (aX (fJ underlying22 rfl) (aX (dn rfl rfl) (aA (aj (aO rfl (fun h => by exfalso; (try simp only [aH] at h); first | contradiction | omega | (simp at h <;> omega)) (fun h1 => ?_)))))))))))))))
 (try simp only [aH] at h1)
 refine aP (aj (ay (ah (aN rfl (bZ rfl func178 (lS H hr (by omega)) ?_)))))
 rintro u w1 H1
 obtain ⟨au, cu, hu, _⟩ := (H1.aT).form
 subst hu
 refine aN rfl (aX (fJ underlying22 rfl) (aX (eF (pl := #[(0, 1), (1, 1), (2, 1), (3, 1), (4, 1), (5, 1)]) (dN (.slice au l.length cu) 0 0 l.length (-1)) underlying184 zeroValue184 (fun w => by kernel_rfl) rfl (by kernel_rfl)) (jh (KJ H1 rfl) ?_)))
 rintro _ w2 ⟨b2, rfl, H2⟩
 refine aV rfl (aA (aj (ay ?_)))
 have HB : aB w0 w2 (dB b2 (.cells (dN (.slice au l.length cu) 0 0 l.length (-1)) 184 (0, 0)) • iU 21 .i32 (.slice au l.length cu) l • F) := H2
 refine ah (aN rfl (aN rfl (aN rfl (aX (fJ underlying22 rfl) (aN rfl (aX (fJ underlying22 rfl) (bP rfl (bF 2 underlying184 rfl sizeOf3 rfl (aG (dA HB sizeOf3 rfl rfl rfl (by rw [iK]; decide)) ?_)))))))))
 rintro _ w3 HB1
 rw [ug] at HB1
 refine bP rfl (bF 3 underlying184 rfl sizeOf3 rfl (aG (dA HB1 sizeOf3 rfl rfl rfl (by rw [iK]; decide)) ?_))
 rintro _ w4 HB2
 rw [xH] at HB2
 refine aA (aj (ay (ah (aN rfl (aV rfl (aV rfl (aA (aj (aJ (lH (.inl rfl) results184 rfl rfl ?_))))))))))
 exact ⟨_, rfl, aB.jH (f := l.length) (t := l.length) (Nat.le_refl _) (Nat.le_refl _) (by simp) hl (by omega) (by omega) (by omega) HB2⟩
end
end Go.Proofs.YtgndbccogcofjaaGreatDoor
end
section
namespace Go.Proofs.YtgndbccogcofjaaGreatDoor
open Go.RowKit
open _root_.Go.Proofs.Tryz
def dY (L : List Int) (i r : Nat) : List Int := dI (dI (List.replicate (L.length + r + 16) 0) 0 (L.take i)) (i + r + 16) (L.drop i)
theorem JC {L : List Int} {i r : Nat} (h : i ≤ L.length) : (dY L i r).length = L.length + r + 16 := by
  unfold dY
  rw [bK, bK] <;> simp [bK] <;> first | omega | (rw [bK] <;> simp <;> omega)
theorem Ad {l ys : List Int} {i : Nat} (h : i + ys.length ≤ l.length) : (dI l i ys).take (i + ys.length) = l.take i ++ ys := by
  unfold dI
  rw [List.take_append_of_le_length (by simp; omega), List.take_of_length_le (by simp; omega)]
theorem Ie {l ys : List Int} {i j : Nat} (h : i + ys.length ≤ j) (h2 : j ≤ l.length) : (dI l i ys).drop j = l.drop j := by
  unfold dI
  rw [List.drop_append, List.drop_eq_nil_of_le (by simp; omega), List.nil_append, List.drop_drop]
  congr 1
  simp
  omega
theorem Ci {l ys : List Int} {i j : Nat} (h : j ≤ i) (h2 : i ≤ l.length) : (dI l i ys).take j = l.take j := by
  unfold dI
  rw [List.append_assoc, List.take_append_of_le_length (by simp; omega), List.take_take, Nat.min_eq_left h]
theorem Cj {l ys : List Int} {i : Nat} (h : i + ys.length = l.length) : (dI l i ys).drop i = ys := by
  unfold dI
  rw [List.append_assoc, List.drop_append, List.drop_eq_nil_of_le (by simp; omega), List.nil_append]
  simp [show i - min i l.length = 0 from by omega, show l.length ≤ i + ys.length from by omega]
theorem Ig {L : List Int} {i r : Nat} (h : i ≤ L.length) : (dY L i r).take i = L.take i := by
  have h1 : (dI (List.replicate (L.length + r + 16) (0 : Int)) 0 (L.take i)).length = L.length + r + 16 := by rw [bK] <;> simp; omega
  unfold dY
  rw [Ci (by omega) (by rw [h1]; omega)]
  have := Ad (l := List.replicate (L.length + r + 16) (0 : Int)) (ys := L.take i) (i := 0) (by simp; omega)
  rw [show 0 + (L.take i).length = i from by simp; omega] at this
  simpa using this
theorem Ih {L : List Int} {i r : Nat} (h : i ≤ L.length) : (dY L i r).drop (i + r + 16) = L.drop i := by
  have h1 : (dI (List.replicate (L.length + r + 16) (0 : Int)) 0 (L.take i)).length = L.length + r + 16 := by rw [bK] <;> simp; omega
  exact Cj (by rw [h1]; simp; omega)
section
variable {w0 w : World} {F : HP} {p : Nat} {L : List Int} {pt mk : Int}
theorem FX {i r : Nat} (H : aB w0 w (dL p L pt mk • F)) (hi : i ≤ L.length) (hr : r ≤ 1024) :
  fO prog 229 #[.pointer (some ⟨p, 0, none⟩), .int .i64 i, .int .i64 r] w fun _ w' => ∃ v, aB w0 w' (dB p (.cells (dN v i (i + r + 16 : Nat) pt mk) 184 (0, 0)) • iU 21 .i32 v (dY L i r) • F) := by
 have hL4 : L.length ≤ 1024 := by obtain ⟨a, c, xs, f, t, h1, h2, h3, h4, h5, h6, h7, hc1, hc2, hl, H1⟩ := H.buf; exact h4
 have e1 : ((L.length : Int) + r + 16).toNat = L.length + r + 16 := by omega
 refine gB func229 ntmps229 ?_
 dsimp only [bf, Nat.reduceAdd]
 refine ay (ah (aN rfl (bZ rfl func112 (pJ H) ?_)))
 rintro u w1 H1
 obtain ⟨au, cu, hu, hcu, aav, _⟩ := (H1.aT).form
 subst hu
 obtain ⟨a, c, xs, f, t, h1, h2, h3, h4, h5, h6, h7, hc1, hc2, hl, HB⟩ := H1.swap.buf
 refine aV rfl (aA (aj (ay (ah (aN rfl (aN rfl (aX (fJ underlying22 rfl) (aN rfl (aX (gy rfl rfl (by omega)) (aX (gy rfl rfl (by omega)) (jh (He HB underlying22 yE rfl rfl (by omega) (by omega) (by omega)) ?_)))))))))))
 rintro v w2 H2
 rw [e1] at H2
 have hm : (List.replicate (L.length + r + 16) (0 : Int)).length = L.length + r + 16 := by simp
 obtain ⟨av, cv, hv, hcv, hcv2, _⟩ := (H2.aT).form
 rw [hm] at hv hcv
 subst hv
 refine bP rfl (bF 1 underlying184 rfl sizeOf22 rfl (aG (dA H2.swap sizeOf22 rfl rfl rfl (by rw [iK]; decide)) ?_))
 rintro _ w3 H3
 rw [MR] at H3
 refine aA (aj (ay (ah (aN rfl (aN rfl (bP rfl (bF 2 underlying184 rfl sizeOf3 rfl (aG (dA H3 sizeOf3 rfl rfl rfl (by rw [iK]; decide)) ?_))))))))
 rintro _ w4 H4
 rw [ug] at H4
 refine aA (aj (ay (ah (aN rfl (aN rfl (bP rfl (bF 1 underlying184 rfl sizeOf22 rfl (dV underlying22 rfl H4.get.2 rfl (aX (fJ underlying22 rfl) (aN rfl (aX (fJ underlying22 rfl) (aN rfl (aX (iG rfl rfl (by omega)) (aX (iG rfl rfl (by omega)) (bP rfl (bF 3 underlying184 rfl sizeOf3 rfl (aG (dA H4 sizeOf3 rfl rfl rfl (by rw [iK]; decide)) ?_)))))))))))))))))
 rintro _ w5 H5
 rw [xH, show (((L.length + r + 16 : Nat) : Int) - ((L.length : Int) - (i : Int))) = ((i + r + 16 : Nat) : Int) from by omega] at H5
 have hb3 := H5.get.2
 refine aA (aj (ay ?_))
 refine jT (n := 8) [0, 1, 2, 3, 4, 5, 6, 7] (fun W => W.heap[p]? = some (.cells (dN (.slice av (L.length + r + 16) cv) i (i + r + 16 : Nat) pt mk) 184 (0, 0))) (by kernel_rfl) (by kernel_rfl) rfl ?_
 have hS0 : (fun W => W.heap[p]? = some (.cells (dN (.slice av (L.length + r + 16) cv) i (i + r + 16 : Nat) pt mk) 184 (0, 0))) (w5.drew) := hb3
 have H4d := H5.drew
 refine iF 0 rfl hS0 rfl (jQ 1 rfl hS0 rfl (gV 2 rfl hS0 1 underlying184 rfl sizeOf22 rfl (jk 3 rfl hS0 (fun W hW => jP underlying22 rfl hW rfl) (iF 4 rfl hS0 rfl (iF 5 rfl hS0 rfl (jg 6 rfl hS0 (fun _ => oC underlying22 sizeOf21 rfl rfl rfl (by omega)) (kE 7 rfl (vI (i := 0) (m := L.take i) H4d.swap (kD.upto H4d.r4.aT (by omega)) underlying22 (by kernel_rfl) (by rw [hm, Jt]; rfl) rfl (by simp; omega)) ?_)))))))
 rintro _ w6 ⟨rfl, H6⟩
 have hm2 : (dI (List.replicate (L.length + r + 16) (0 : Int)) 0 (L.take i)).length = L.length + r + 16 := by rw [bK] <;> simp; omega
 refine BG (by kernel_rfl) ?_
 refine pO (aj ?_)
 refine jT (n := 13) [0, 1, 2, 3, 4, 5, 6, 7, 8, 9, 10, 11, 12] (fun W => W.heap[p]? = some (.cells (dN (.slice av (L.length + r + 16) cv) i (i + r + 16 : Nat) pt mk) 184 (0, 0))) (by kernel_rfl) (by kernel_rfl) rfl ?_
 have hS0 : (fun W => W.heap[p]? = some (.cells (dN (.slice av (L.length + r + 16) cv) i (i + r + 16 : Nat) pt mk) 184 (0, 0))) (w6.drew) := H6.swap.get.2
 have Xj := H6.drew
 refine iF 0 rfl hS0 rfl (jQ 1 rfl hS0 rfl (gV 2 rfl hS0 1 underlying184 rfl sizeOf22 rfl (jk 3 rfl hS0 (fun W hW => jP underlying22 rfl hW rfl) (iF 4 rfl hS0 rfl (jQ 5 rfl hS0 rfl (gV 6 rfl hS0 3 underlying184 rfl sizeOf3 rfl (jk 7 rfl hS0 (fun W hW => jP underlying3 rfl hW rfl) (jg 8 rfl hS0 (fun _ => oC underlying22 sizeOf21 rfl rfl rfl (by omega)) (iF 9 rfl hS0 rfl (iF 10 rfl hS0 rfl (jg 11 rfl hS0 (fun _ => oC underlying22 sizeOf21 rfl rfl rfl (by omega)) (kE 12 rfl (vI (i := i + r + 16) (m := L.drop i) Xj (kD.from Xj.r4.aT (by omega)) underlying22 (by kernel_rfl) (by rw [hm2]; rfl) rfl (by rw [hm2]; simp; omega)) ?_))))))))))))
 rintro _ w7 ⟨rfl, H7⟩
 refine BG (by kernel_rfl) ?_
 refine pO (fZ (.inr rfl) results229 ?_)
 exact ⟨_, H7.swap.DW.right.DW.right⟩
theorem kS (H : aB w0 w (dL p L pt mk • F)) : fO prog 185 #[.pointer (some ⟨p, 0, none⟩)] w fun v w' => v = .bool false ∧ w = w' := by
  obtain ⟨a, c, xs, f, t, h1, h2, h3, h4, h5, h6, h7, hc1, hc2, hl, H1⟩ := H.buf
  exact mF _ H1.get.2 rfl
def bI (pt i j n : Int) : Int := if j < pt then pt + (n - (j - i)) else if i ≤ pt then i + n else pt
def bJ (mk i j n : Int) : Int := if j < mk then mk + (n - (j - i)) else if i < mk then i else mk
def fB (at_ : Int) (d i : Value) : Array Value := #[.int .i64 at_, d, i]
theorem jJ {at_ : Int} {d i : Value} (hd : d.oneCell' = true) (hi : i.oneCell' = true) : ∀ v ∈ (fB at_ d i).toList, v.oneCell' = true := by
  intro v hv
  simp [fB] at hv
  rcases hv with rfl | rfl | rfl <;> first | rfl | assumption
variable {v : Value} {l : List Int} {i j : Int}
theorem Aw (H : aB w0 w (dL p L pt mk • F)) (hr : gW w0 F .i32 v l) (hb : i < 0 ∨ L.length < i ∨ j < i ∨ L.length < j) :
  fO prog 193 #[.pointer (some ⟨p, 0, none⟩), .int .i64 i, .int .i64 j, v] w fun v' w' => v' = .tuple #[.agg (fB 0 (.slice none 0 0) (.slice none 0 0)), .int .i64 70] ∧ aB w0 w' (dL p L pt mk • F) := by
 obtain ⟨a, c, rfl, _, _, _⟩ := (hr w H.right).open
 refine gB func193 ntmps193 ?_
 dsimp only [bf, Nat.reduceAdd]
 refine ay (ah (jh (qP H zeroValue101) ?_))
 rintro _ w1 ⟨b1, rfl, H1⟩
 refine aV rfl (aA (aj (ay (ah (aN rfl (bZ rfl func186 (kH H1.right) ?_))))))
 rintro _ w2 ⟨rfl, hD⟩
 have HL := H1.kV hD
 refine aV rfl (aA (aj (ay (bC (ay (ah (aN rfl (bZ rfl func185 (kS HL.right) ?_))))))))
 rintro _ _ ⟨rfl, rfl⟩
 refine aV rfl (aA (aj (aO rfl (fun h1 => ?_) (fun h1 => ?_))))
 ·(try simp only [aH] at h1)
  try (exfalso; first | contradiction | omega)
  all_goals
   refine ay (ah (aX (eF (pl := #[(0, 1), (1, 1), (2, 1)]) (_) underlying101 zeroValue101 (fun w => by kernel_rfl) rfl (rfl)) (aG (dA HL sizeOf101 rfl rfl rfl (by decide)) ?_)))
   rintro _ w4 H4
   refine aV rfl (aA (aj (aJ (aW (aK ?_)))))
   refine eH (.inl rfl) results193 rfl rfl underlying101 rfl (by rw [show (prog.info? 101).map (·.size) = some 3 from by kernel_rfl]; rfl) H4.get.2 ?_
   exact ⟨rfl, H4.right⟩
 ·(try simp only [aH] at h1)
  try (exfalso; first | contradiction | omega)
  all_goals
   refine ay (ah (aN rfl (aX (eu rfl rfl) (fK rfl (fun h2 => ?_) (fun h2 => ?_)))))
   ·(try simp only [aH] at h2)
    try (exfalso; first | contradiction | omega)
    all_goals
     refine bD (bD (bD (fG rfl rfl (aN rfl (bD (bD (bD (fG rfl rfl (aN rfl (bD (bD (bD (fG rfl rfl (aV rfl (aA (aj (uX (ay (ah (aX (eF (pl := #[(0, 1), (1, 1), (2, 1)]) (fB 0 (.slice none 0 0) (.slice none 0 0)) underlying101 zeroValue101 (fun w => by kernel_rfl) rfl (by kernel_rfl)) (aG (dh (cs := fB 0 (.slice none 0 0) (.slice none 0 0)) HL sizeOf101 rfl rfl rfl rfl (jJ rfl rfl)) ?_)))))))))))))))))))))
     rintro _ w5 H5
     refine aV rfl (aA (aj (aJ (aW (aK ?_)))))
     refine eH (.inl rfl) results193 rfl rfl underlying101 rfl (by rw [show (prog.info? 101).map (·.size) = some 3 from by kernel_rfl]; rfl) H5.get.2 ?_
     exact ⟨rfl, H5.right⟩
   ·(try simp only [aH] at h2)
    try (exfalso; first | contradiction | omega)
    all_goals
     refine aZ (aN rfl (aZ (aN rfl (aZ (aX (dn rfl rfl) (eG rfl rfl (fK rfl (fun h3 => ?_) (fun h3 => ?_))))))))
     ·(try simp only [aH] at h3)
      try (exfalso; first | contradiction | omega)
      all_goals
       refine bD (bD (bD (fG rfl rfl (aN rfl (bD (bD (bD (fG rfl rfl (aV rfl (aA (aj (uX (ay (ah (aX (eF (pl := #[(0, 1), (1, 1), (2, 1)]) (fB 0 (.slice none 0 0) (.slice none 0 0)) underlying101 zeroValue101 (fun w => by kernel_rfl) rfl (by kernel_rfl)) (aG (dh (cs := fB 0 (.slice none 0 0) (.slice none 0 0)) HL sizeOf101 rfl rfl rfl rfl (jJ rfl rfl)) ?_))))))))))))))))
       rintro _ w6 H6
       refine aV rfl (aA (aj (aJ (aW (aK ?_)))))
       refine eH (.inl rfl) results193 rfl rfl underlying101 rfl (by rw [show (prog.info? 101).map (·.size) = some 3 from by kernel_rfl]; rfl) H6.get.2 ?_
       exact ⟨rfl, H6.right⟩
     ·(try simp only [aH] at h3)
      try (exfalso; first | contradiction | omega)
      all_goals
       refine aZ (aN rfl (aZ (aN rfl (aZ (aX (eu rfl rfl) (eG rfl rfl (fK rfl (fun h4 => ?_) (fun h4 => ?_))))))))
       ·(try simp only [aH] at h4)
        try (exfalso; first | contradiction | omega)
        all_goals
         refine bD (bD (bD (fG rfl rfl (aV rfl (aA (aj (uX (ay (ah (aX (eF (pl := #[(0, 1), (1, 1), (2, 1)]) (fB 0 (.slice none 0 0) (.slice none 0 0)) underlying101 zeroValue101 (fun w => by kernel_rfl) rfl (by kernel_rfl)) (aG (dh (cs := fB 0 (.slice none 0 0) (.slice none 0 0)) HL sizeOf101 rfl rfl rfl rfl (jJ rfl rfl)) ?_)))))))))))
         rintro _ w7 H7
         refine aV rfl (aA (aj (aJ (aW (aK ?_)))))
         refine eH (.inl rfl) results193 rfl rfl underlying101 rfl (by rw [show (prog.info? 101).map (·.size) = some 3 from by kernel_rfl]; rfl) H7.get.2 ?_
         exact ⟨rfl, H7.right⟩
       ·(try simp only [aH] at h4)
        try (exfalso; first | contradiction | omega)
        all_goals
         refine aZ (aN rfl (aZ (aN rfl (aZ (aX (dn rfl rfl) (eG rfl rfl (aV rfl (aA (aj (aO rfl (fun h5 => ?_) (fun h => by exfalso; (try simp only [aH] at h); first | contradiction | omega | (simp at h <;> omega))))))))))))
         (try simp only [aH] at h5)
         refine ay (ah (aX (eF (pl := #[(0, 1), (1, 1), (2, 1)]) (fB 0 (.slice none 0 0) (.slice none 0 0)) underlying101 zeroValue101 (fun w => by kernel_rfl) rfl (by kernel_rfl)) (aG (dh (cs := fB 0 (.slice none 0 0) (.slice none 0 0)) HL sizeOf101 rfl rfl rfl rfl (jJ rfl rfl)) ?_)))
         rintro _ w8 H8
         refine aV rfl (aA (aj (aJ (aW (aK ?_)))))
         refine eH (.inl rfl) results193 rfl rfl underlying101 rfl (by rw [show (prog.info? 101).map (·.size) = some 3 from by kernel_rfl]; rfl) H8.get.2 ?_
         exact ⟨rfl, H8.right⟩
theorem zo (H : aB w0 w (dL p L pt mk • F)) (hr : gW w0 F .i32 v l) (hb : 0 ≤ i ∧ i ≤ j ∧ j ≤ L.length) (hl : 1024 < L.length - (j - i) + l.length) :
  fO prog 193 #[.pointer (some ⟨p, 0, none⟩), .int .i64 i, .int .i64 j, v] w fun v' w' => v' = .tuple #[.agg (fB 0 (.slice none 0 0) (.slice none 0 0)), .int .i64 3] ∧ aB w0 w' (dL p L pt mk • F) := by
 obtain ⟨a, c, rfl, _, _, _⟩ := (hr w H.right).open
 have hL4 : L.length ≤ 1024 := by obtain ⟨a, c, xs, f, t, h1, h2, h3, h4, h5, h6, h7, hc1, hc2, hl, H1⟩ := H.buf; exact h4
 refine gB func193 ntmps193 ?_
 dsimp only [bf, Nat.reduceAdd]
 refine ay (ah (jh (qP H zeroValue101) ?_))
 rintro _ w1 ⟨b1, rfl, H1⟩
 refine aV rfl (aA (aj (ay (ah (aN rfl (bZ rfl func186 (kH H1.right) ?_))))))
 rintro _ w2 ⟨rfl, hD⟩
 have HL := H1.kV hD
 refine aV rfl (aA (aj (ay (bC (ay (ah (aN rfl (bZ rfl func185 (kS HL.right) ?_))))))))
 rintro _ _ ⟨rfl, rfl⟩
 refine aV rfl (aA (aj (aO rfl (fun h1 => ?_) (fun h1 => ?_))))
 ·(try simp only [aH] at h1)
  try (exfalso; first | contradiction | omega)
  all_goals
   refine ay (ah (aX (eF (pl := #[(0, 1), (1, 1), (2, 1)]) (_) underlying101 zeroValue101 (fun w => by kernel_rfl) rfl (rfl)) (aG (dA HL sizeOf101 rfl rfl rfl (by decide)) ?_)))
   rintro _ w4 H4
   refine aV rfl (aA (aj (aJ (aW (aK ?_)))))
   refine eH (.inl rfl) results193 rfl rfl underlying101 rfl (by rw [show (prog.info? 101).map (·.size) = some 3 from by kernel_rfl]; rfl) H4.get.2 ?_
   exact ⟨rfl, H4.right⟩
 ·(try simp only [aH] at h1)
  try (exfalso; first | contradiction | omega)
  all_goals
   refine ay (ah (aN rfl (aX (eu rfl rfl) (fK rfl (fun h2 => ?_) (fun h2 => ?_)))))
   ·(try simp only [aH] at h2)
    try (exfalso; first | contradiction | omega)
    all_goals
     refine bD (bD (bD (fG rfl rfl (aN rfl (bD (bD (bD (fG rfl rfl (aN rfl (bD (bD (bD (fG rfl rfl (aV rfl (aA (aj (uX (ay (ah (aX (eF (pl := #[(0, 1), (1, 1), (2, 1)]) (_) underlying101 zeroValue101 (fun w => by kernel_rfl) rfl (rfl)) (aG (dA HL sizeOf101 rfl rfl rfl (by decide)) ?_)))))))))))))))))))))
     rintro _ w5 H5
     refine aV rfl (aA (aj (aJ (aW (aK ?_)))))
     refine eH (.inl rfl) results193 rfl rfl underlying101 rfl (by rw [show (prog.info? 101).map (·.size) = some 3 from by kernel_rfl]; rfl) H5.get.2 ?_
     exact ⟨rfl, H5.right⟩
   ·(try simp only [aH] at h2)
    try (exfalso; first | contradiction | omega)
    all_goals
     refine aZ (aN rfl (aZ (aN rfl (aZ (aX (dn rfl rfl) (eG rfl rfl (fK rfl (fun h3 => ?_) (fun h3 => ?_))))))))
     ·(try simp only [aH] at h3)
      try (exfalso; first | contradiction | omega)
      all_goals
       refine bD (bD (bD (fG rfl rfl (aN rfl (bD (bD (bD (fG rfl rfl (aV rfl (aA (aj (uX (ay (ah (aX (eF (pl := #[(0, 1), (1, 1), (2, 1)]) (_) underlying101 zeroValue101 (fun w => by kernel_rfl) rfl (rfl)) (aG (dA HL sizeOf101 rfl rfl rfl (by decide)) ?_))))))))))))))))
       rintro _ w6 H6
       refine aV rfl (aA (aj (aJ (aW (aK ?_)))))
       refine eH (.inl rfl) results193 rfl rfl underlying101 rfl (by rw [show (prog.info? 101).map (·.size) = some 3 from by kernel_rfl]; rfl) H6.get.2 ?_
       exact ⟨rfl, H6.right⟩
     ·(try simp only [aH] at h3)
      try (exfalso; first | contradiction | omega)
      all_goals
       refine aZ (aN rfl (aZ (aN rfl (aZ (aX (eu rfl rfl) (eG rfl rfl (fK rfl (fun h4 => ?_) (fun h4 => ?_))))))))
       ·(try simp only [aH] at h4)
        try (exfalso; first | contradiction | omega)
        all_goals
         refine bD (bD (bD (fG rfl rfl (aV rfl (aA (aj (uX (ay (ah (aX (eF (pl := #[(0, 1), (1, 1), (2, 1)]) (_) underlying101 zeroValue101 (fun w => by kernel_rfl) rfl (rfl)) (aG (dA HL sizeOf101 rfl rfl rfl (by decide)) ?_)))))))))))
         rintro _ w7 H7
         refine aV rfl (aA (aj (aJ (aW (aK ?_)))))
         refine eH (.inl rfl) results193 rfl rfl underlying101 rfl (by rw [show (prog.info? 101).map (·.size) = some 3 from by kernel_rfl]; rfl) H7.get.2 ?_
         exact ⟨rfl, H7.right⟩
       ·(try simp only [aH] at h4)
        try (exfalso; first | contradiction | omega)
        all_goals
         refine aZ (aN rfl (aZ (aN rfl (aZ (aX (dn rfl rfl) (eG rfl rfl (aV rfl (aA (aj (aO rfl (fun h => by exfalso; (try simp only [aH] at h); first | contradiction | omega | (simp at h <;> omega)) (fun h5 => ?_)))))))))))
         (try simp only [aH] at h5)
         refine ay (ah (aN rfl (aX (fJ underlying22 rfl) (aN rfl (aN rfl (aN rfl (aX (iG rfl rfl (by omega)) (aX (iG rfl rfl (by omega)) (aX (iG rfl rfl (by omega)) (aX (dn rfl rfl) (aV rfl (aA (aj (aO rfl (fun h6 => ?_) (fun h => by exfalso; (try simp only [aH] at h); first | contradiction | omega | (simp at h <;> omega))))))))))))))))
         (try simp only [aH] at h6)
         refine ay (ah (aX (eF (pl := #[(0, 1), (1, 1), (2, 1)]) (fB 0 (.slice none 0 0) (.slice none 0 0)) underlying101 zeroValue101 (fun w => by kernel_rfl) rfl (by kernel_rfl)) (aG (dh (cs := fB 0 (.slice none 0 0) (.slice none 0 0)) HL sizeOf101 rfl rfl rfl rfl (jJ rfl rfl)) ?_)))
         rintro _ w8 H8
         refine aV rfl (aA (aj (aJ (aW (aK ?_)))))
         refine eH (.inl rfl) results193 rfl rfl underlying101 rfl (by rw [show (prog.info? 101).map (·.size) = some 3 from by kernel_rfl]; rfl) H8.get.2 ?_
         exact ⟨rfl, H8.right⟩
end
end Go.Proofs.YtgndbccogcofjaaGreatDoor
end
