import Derived.Test.YtgndbccogcofjaaGreatDoorZ2
import Derived.Test.YtgndbccogcofjaaGreatDoorZ5
import Derived.Test.YtgndbccogcofjaaGreatDoorProg
import Derived.Test.YtgndbccogcofjaaGreatDoorZ3
import Derived.Test.YtgndbccogcofjaaGreatDoorZ4
set_option linter.unusedSimpArgs false
set_option linter.unusedVariables false
/- Texts of mine, joined, their names in short: Move Equal Slices Buf. -/
section
namespace Go.Proofs.YtgndbccogcofjaaGreatDoor
open Go.RowKit
open _root_.Go.Proofs.Tryz
def lX (g : Int → Bool) (l : List Int) (at_ : Nat) : Nat := at_ + ((l.drop at_).takeWhile g).length
def nD (g : Int → Bool) (l : List Int) (at_ : Nat) : Nat := at_ - ((l.take at_).reverse.takeWhile g).length
theorem KY {g : Int → Bool} : ∀ {l : List Int} {n : Nat}, n ≤ l.length → (∀ j, j < n → g (l.getD j 0) = true) → (n = l.length ∨ g (l.getD n 0) = false) → (l.takeWhile g).length = n
  | [], n, h, _, _ => by simp at h; simp [h]
  | x :: l, 0, _, _, h => by
    rcases h with h | h
    · simp at h
    · simp at h; simp [List.takeWhile, h]
  | x :: l, n + 1, h, k, h2 => by
    have h0 := k 0 (by omega)
    simp at h0
    have ih := KY (l := l) (n := n) (by simpa using h) (fun j hj => by simpa using k (j + 1) (by omega)) (by simpa using h2)
    simp [List.takeWhile, h0, ih]
theorem xG {g : Int → Bool} {l : List Int} {i k : Nat} (h1 : i ≤ k) (h2 : k ≤ l.length) (h3 : ∀ j, i ≤ j → j < k → g (l.getD j 0) = true) (h4 : k = l.length ∨ g (l.getD k 0) = false) : lX g l i = k := by
  have := KY (g := g) (l := l.drop i) (n := k - i) (by simp; omega) (fun j hj => by
    have := h3 (i + j) (by omega) (by omega)
    simpa [List.getD_eq_getElem?_getD] using this) (by
      rcases h4 with h4 | h4
      · exact .inl (by simp; omega)
      · right
        simpa [List.getD_eq_getElem?_getD, show i + (k - i) = k from by omega] using h4)
  unfold lX
  omega
theorem back_eq {g : Int → Bool} {l : List Int} {i k : Nat} (h1 : k ≤ i) (h2 : i ≤ l.length) (h3 : ∀ j, k ≤ j → j < i → g (l.getD j 0) = true) (h4 : k = 0 ∨ g (l.getD (k - 1) 0) = false) : nD g l i = k := by
  have e : ∀ j, j < i → (l.take i).reverse.getD j 0 = l.getD (i - 1 - j) 0 := by
    intro j hj
    rw [List.getD_eq_getElem?_getD, List.getElem?_reverse (by simp; omega), List.length_take, Nat.min_eq_left h2, List.getElem?_take_of_lt (by omega), ← List.getD_eq_getElem?_getD]
  have := KY (g := g) (l := (l.take i).reverse) (n := i - k) (by simp; omega) (fun j hj => by
    rw [e j (by omega)]; exact h3 _ (by omega) (by omega)) (by
      rcases h4 with h4 | h4
      · exact .inl (by simp; omega)
      · by_cases hk : k = 0
        · exact .inl (by simp; omega)
        · right
          rw [e _ (by omega), show i - 1 - (i - k) = k - 1 from by omega]; exact h4)
  unfold nD
  omega
theorem mY (g : Int → Bool) (l : List Int) {i : Nat} (h : i ≤ l.length) : i ≤ lX g l i ∧ lX g l i ≤ l.length := by
  have := (List.takeWhile_sublist g (l := l.drop i)).length_le
  simp at this
  unfold lX; omega
theorem zu (g : Int → Bool) (l : List Int) (i : Nat) : nD g l i ≤ i := by unfold nD; omega
def jG (n : Nat) (x : Int) : Nat := (min (max x 0) n).toNat
theorem pU (n : Nat) (x : Int) : jG n x ≤ n := by unfold jG; omega
section
variable {w0 w : World} {F G : HP} {v fv : Value} {l : List Int} {g : Int → Bool}
theorem vK {x : Int} {a : Option Addr} {c : Nat} : fG prog 191 #[.slice a l.length c, .int .i64 x] w fun v' w' => v' = .int .i64 (jG l.length x) ∧ w = w' := by
 refine gG func191 ntmps191 ?_
 dsimp only [bf, Nat.reduceAdd]
 refine ay (ah (aV rfl (aA (aj (ay (ah (aN rfl (aU (Xw rfl rfl) (aN rfl (aU (fO underlying22 rfl) (aU (UC rfl rfl) (aV rfl (aA (aj (aI (aH (.inl rfl) results191 rfl ?_))))))))))))))))
 exact ⟨by congr 1; unfold jG; omega, rfl⟩
theorem Jm {i : Nat} (H : aB w0 w (G • F)) (hf : FV prog w0 F fv g) (hr : iI w0 (G • F) .i32 v l) (hi : i ≤ l.length) :
    fG prog 197 #[v, .int .i64 i, fv] w fun v' w' => v' = .int .i64 (lX g l i) ∧ aB w0 w' (G • F) := by
  obtain ⟨a, c, rfl, hac, Ox, _⟩ := (hr w H).open
  refine gG func197 ntmps197 ?_
  dsimp only [bf, Nat.reduceAdd]
  refine ay (ah (aV rfl (aA (aj (ay (bF ?_))))))
  refine gQ [(0, _), (2, _)] (fun (k : Nat) => [(1, .int .i64 (k : Int))]) (fun (k : Nat) W => i ≤ k ∧ k ≤ l.length ∧ (∀ j, i ≤ j → j < k → g (l.getD j 0) = true) ∧ aB w0 W (G • F)) (fun (k : Nat) => l.length - k) (i) (Sub.cons rfl (Sub.cons rfl (Sub.nil _))) (Sub.cons rfl (Sub.nil _)) ⟨by omega, by omega, fun j h1 h2 => absurd h1 (by omega), H⟩ ?_
  rintro k w1 ⟨hk1, hk2, hk3, HL⟩
  dsimp only [List.cons_append, List.nil_append]
  refine ay (ay (ah (aN rfl (aN rfl (aU (fO underlying22 rfl) (aU (eF rfl rfl) (eP rfl (fun h1 => ?_) (fun h1 => ?_))))))))
  · (try simp only [aF] at h1)
    try (exfalso; first | contradiction | omega)
    all_goals
      obtain ⟨a', c', hsl, _, _, hcell⟩ := (hr _ HL).open
      cases hsl
      obtain ⟨b, o, rfl, hq⟩ := hcell (by omega)
      have hqk := hq k (by omega)
      refine aX (aN rfl (aX (aN rfl (aX (aN rfl (aX (aU (gX underlying22 sizeOf21 rfl rfl (by omega)) (aX ?_))))))))
      refine aU (kU (dB underlying21 rfl) rfl (by rw [show (k : Int).toNat * 1 = k from by omega]; exact hqk)) ?_
      refine aX (iy (pI rfl rfl ((hf.2 _ _ HL _))) ?_)
      rintro _ w2 ⟨rfl, H2⟩
      have HN := H2
      refine fP rfl rfl (aA (aj (aP rfl (fun h2 => ?_) (fun h2 => ?_))))
      · (try simp only [aF] at h2)
        try (exfalso; first | contradiction | omega)
        all_goals
          refine aO (aj (bF (ah (aN rfl (aU (fC rfl rfl (by omega)) (aV rfl (aA (aQ ?_))))))))
          refine eG (k + 1) ?_ ?_ ?_ ?_
          · exact (Sub.cons rfl (Sub.nil _))
          · exact (Sub.cons rfl (Sub.cons rfl (Sub.nil _)))
          · (try dsimp only)
            first | done | exact ⟨by omega, by omega, fun j h4 h5 => by by_cases e : j = k; (subst e; assumption); exact hk3 j h4 (by omega), HN⟩
          · (try dsimp only); omega
      · (try simp only [aF] at h2)
        try (exfalso; first | contradiction | omega)
        all_goals
          refine eU (aZ (aZ (bK (aj (ay (ah (aN rfl (aV rfl (aA (aj (aI (aH (.inl rfl) results197 rfl ?_))))))))))))
          exact ⟨by rw [xG hk1 hk2 hk3 (by first | (left; omega) | (right; assumption))], H2⟩
  · (try simp only [aF] at h1)
    try (exfalso; first | contradiction | omega)
    all_goals
      refine bD (bD (bD (bD (bD (bD (dL rfl rfl (aA (aj (mO (eU (aZ (aZ (bK (aj (ay (ah (aN rfl (aV rfl (aA (aj (aI (aH (.inl rfl) results197 rfl ?_))))))))))))))))))))))
      exact ⟨by rw [xG hk1 hk2 hk3 (by first | (left; omega) | (right; assumption))], HL⟩
theorem Jo {i : Nat} (H : aB w0 w (G • F)) (hf : FV prog w0 F fv g) (hr : iI w0 (G • F) .i32 v l) (hi : i ≤ l.length) :
    fG prog 199 #[v, .int .i64 i, fv] w fun v' w' => v' = .int .i64 (nD g l i) ∧ aB w0 w' (G • F) := by
  obtain ⟨a, c, rfl, hac, Ox, _⟩ := (hr w H).open
  refine gG func199 ntmps199 ?_
  dsimp only [bf, Nat.reduceAdd]
  refine ay (ah (aV rfl (aA (aj (ay (bF ?_))))))
  refine gQ [(0, _), (2, _)] (fun (k : Nat) => [(1, .int .i64 (k : Int))]) (fun (k : Nat) W => k ≤ i ∧ (∀ j, k ≤ j → j < i → g (l.getD j 0) = true) ∧ aB w0 W (G • F)) (fun (k : Nat) => k) (i) (Sub.cons rfl (Sub.cons rfl (Sub.nil _))) (Sub.cons rfl (Sub.nil _)) ⟨by omega, fun j h1 h2 => absurd h1 (by omega), H⟩ ?_
  rintro k w1 ⟨hk1, hk3, HL⟩
  dsimp only [List.cons_append, List.nil_append]
  refine ay (ay (ah (aN rfl (aU (dF rfl rfl) (eP rfl (fun h1 => ?_) (fun h1 => ?_))))))
  · (try simp only [aF] at h1)
    try (exfalso; first | contradiction | omega)
    all_goals
      obtain ⟨a', c', hsl, _, _, hcell⟩ := (hr _ HL).open
      cases hsl
      obtain ⟨b, o, rfl, hq⟩ := hcell (by omega)
      have hqk := hq (k - 1) (by omega)
      refine aX (aN rfl (aX (aN rfl (aX (aN rfl (aX (aU (iP rfl rfl (by omega)) (aX (aU (gX underlying22 sizeOf21 rfl rfl (by omega)) (aX ?_))))))))))
      refine aU (kU (dB underlying21 rfl) rfl (by rw [show ((k : Int) - 1).toNat * 1 = k - 1 from by omega]; exact hqk)) ?_
      refine aX (iy (pI rfl rfl ((hf.2 _ _ HL _))) ?_)
      rintro _ w2 ⟨rfl, H2⟩
      have HN := H2
      refine fP rfl rfl (aA (aj (aP rfl (fun h2 => ?_) (fun h2 => ?_))))
      · (try simp only [aF] at h2)
        try (exfalso; first | contradiction | omega)
        all_goals
          refine aO (aj (bF (ah (aN rfl (aU (iP rfl rfl (by omega)) (aV rfl (aA (aQ ?_))))))))
          refine eG (k - 1) ?_ ?_ ?_ ?_
          · exact (Sub.yc rfl (by rw [show ((k - 1 : Nat) : Int) = (k : Int) - 1 from by omega]) (Sub.nil _))
          · exact (Sub.cons rfl (Sub.cons rfl (Sub.nil _)))
          · (try dsimp only)
            first | done | exact ⟨by omega, fun j h4 h5 => by by_cases e : j = k - 1; (subst e; assumption); exact hk3 j (by omega) h5, HN⟩
          · (try dsimp only); omega
      · (try simp only [aF] at h2)
        try (exfalso; first | contradiction | omega)
        all_goals
          refine eU (aZ (aZ (bK (aj (ay (ah (aN rfl (aV rfl (aA (aj (aI (aH (.inl rfl) results199 rfl ?_))))))))))))
          exact ⟨by rw [back_eq hk1 hi hk3 (by first | (left; omega) | (right; assumption))], H2⟩
  · (try simp only [aF] at h1)
    try (exfalso; first | contradiction | omega)
    all_goals
      refine bD (bD (bD (bD (bD (bD (bD (dL rfl rfl (aA (aj (mO (eU (aZ (aZ (bK (aj (ay (ah (aN rfl (aV rfl (aA (aj (aI (aH (.inl rfl) results199 rfl ?_)))))))))))))))))))))))
      exact ⟨by rw [back_eq hk1 hi hk3 (by first | (left; omega) | (right; assumption))], HL⟩
theorem qY (hT : mD w0) : FV prog w0 F (.func (.func 137) #[] #[]) bg :=
  ⟨rfl, fun G W HW r => ⟨137, [], [], _, _, rfl, func137, rfl, rfl, yJ HW hT⟩⟩
theorem Oy {v : Value} (h : v.oneCell' = true) : v.cells = #[v] := by cases v <;> simp_all [Value.cells, Value.oneCell']
theorem Qb {b : Nat} {r : Int} (H : aB w0 w (G • dH b (.cells #[fv] 143 (0, 0)) • F)) (hf : FV prog w0 F fv g) :
  fG prog 230 #[.int .i32 r, .pointer (some ⟨b, 0, none⟩)] w fun v w' => v = .bool (!g r) ∧ aB w0 w' (G • dH b (.cells #[fv] 143 (0, 0)) • F) := by
 refine gG func230 ntmps230 ?_
 dsimp only [bf, Nat.reduceAdd]
 refine ay (ah (aV rfl (aA (aj (ay (ah (dX underlying143 rfl H.swap.get.2 rfl (aN rfl (iy (pI rfl rfl ((hf.2 (G • dH b (.cells #[fv] 143 (0, 0))) _ H.deep _))) ?_)))))))))
 rintro _ w1 ⟨rfl, H1⟩
 refine aU (jY rfl) (aV rfl (aA (aj (aI (aH (.inl rfl) results230 rfl ?_)))))
 exact ⟨rfl, H1.flat⟩
theorem Nk (H : aB w0 w F) (h1 : fv.oneCell' = true) : fG prog 198 #[fv] w fun v w' => ∃ b, v = .func (.func 230) #[] #[.pointer (some ⟨b, 0, none⟩)] ∧ aB w0 w' (dH b (.cells #[fv] 143 (0, 0)) • F) := by
 refine gG func198 ntmps198 ?_
 dsimp only [bf, Nat.reduceAdd]
 refine ay (ah (iy (MR H rfl) ?_))
 rintro _ w1 ⟨b1, rfl, H1⟩
 refine aV rfl (aA (aj (ay (ah (aU (vG rfl rfl) (aV rfl (aA (aj (aI (aH (.inl rfl) results198 rfl ?_))))))))))
 exact ⟨b1, rfl, by rw [Oy h1] at H1; exact H1⟩
theorem F5 {b : Nat} (hf : FV prog w0 F fv g) : FV prog w0 (dH b (.cells #[fv] 143 (0, 0)) • F) (.func (.func 230) #[] #[.pointer (some ⟨b, 0, none⟩)]) (fun r => !g r) :=
  ⟨rfl, fun G W HW r => ⟨230, [], [.pointer (some ⟨b, 0, none⟩)], _, _, rfl, func230, rfl, rfl, Qb HW hf⟩⟩
def dV (l : List Int) (x : Int) : Nat := lX bg l (lX (fun r => !bg r) l (jG l.length x))
def jc (l : List Int) (x : Int) : Nat := nD bg l (nD (fun r => !bg r) l (jG l.length x))
theorem Hl {x : Int} (H : aB w0 w F) (hT : mD w0) (hr : iI w0 F .i32 v l) :
  fG prog 129 #[v, .int .i64 x] w fun v' w' => v' = .int .i64 (dV l x) ∧ aB w0 w' F := by
 obtain ⟨a, c, hv, hac, Ox, _⟩ := (hr w H).open
 subst hv
 have hw := pU l.length x
 have ho := mY (fun r => !bg r) l hw
 refine gG func129 ntmps129 ?_
 dsimp only [bf, Nat.reduceAdd]
 refine ay (ah (aV rfl (aA (aj (ay (ah (aN rfl (aN rfl (aN rfl (aN rfl (bW rfl func191 (vK) ?_)))))))))))
 rintro _ _ ⟨rfl, rfl⟩
 refine bW rfl func198 (Nk H rfl) ?_
 rintro _ w2 ⟨bn, rfl, H2⟩
 refine bW rfl func197 ((Jm (G := emp) H2.BZ (F5 (qY hT)) hr.under.under hw)) ?_
 rintro _ w3 ⟨rfl, H3⟩
 refine bW rfl func197 ((Jm (G := emp • dH bn _) H3.deep (qY hT) hr.under ho.2)) ?_
 rintro _ w4 ⟨rfl, H4⟩
 refine aV rfl (aA (aj (aI (aH (.inl rfl) results129 rfl ?_))))
 exact ⟨rfl, H4.right⟩
theorem Dn {x : Int} (H : aB w0 w F) (hT : mD w0) (hr : iI w0 F .i32 v l) :
  fG prog 130 #[v, .int .i64 x] w fun v' w' => v' = .int .i64 (jc l x) ∧ aB w0 w' F := by
 obtain ⟨a, c, hv, hac, Ox, _⟩ := (hr w H).open
 subst hv
 have hw := pU l.length x
 have ho := zu (fun r => !bg r) l (jG l.length x)
 refine gG func130 ntmps130 ?_
 dsimp only [bf, Nat.reduceAdd]
 refine ay (ah (aV rfl (aA (aj (ay (ah (aN rfl (aN rfl (aN rfl (aN rfl (bW rfl func191 (vK) ?_)))))))))))
 rintro _ _ ⟨rfl, rfl⟩
 refine bW rfl func198 (Nk H rfl) ?_
 rintro _ w2 ⟨bn, rfl, H2⟩
 refine bW rfl func199 ((Jo (G := emp) H2.BZ (F5 (qY hT)) hr.under.under hw)) ?_
 rintro _ w3 ⟨rfl, H3⟩
 refine bW rfl func199 ((Jo (G := emp • dH bn _) H3.deep (qY hT) hr.under (by omega))) ?_
 rintro _ w4 ⟨rfl, H4⟩
 refine aV rfl (aA (aj (aI (aH (.inl rfl) results130 rfl ?_))))
 exact ⟨rfl, H4.right⟩
def jv (r : Int) : Bool := decide (wO r ≠ 0) || iG r
theorem Dp {r : Int} (H : aB w0 w F) (hT : mD w0) : fG prog 192 #[.int .i32 r] w fun v w' => v = .bool (jv r) ∧ aB w0 w' F := by
 refine gG func192 ntmps192 ?_
 dsimp only [bf, Nat.reduceAdd]
 refine ay (ah (aV rfl (aA (aj (ay (ah (aN rfl (bW rfl func201 (jm H hT) ?_))))))))
 rintro _ w1 ⟨rfl, H1⟩
 refine aU (bY rfl rfl) (eP rfl (fun h1 => ?_) (fun h1 => ?_))
 ·(try simp only [aF] at h1)
  try (exfalso; first | contradiction | omega)
  all_goals
   refine bD (bD (fP rfl rfl (aV rfl (aA (aj (aI (aH (.inl rfl) results192 rfl ?_)))))))
   exact ⟨by unfold jv; simp [*], H1⟩
 ·(try simp only [aF] at h1)
  try (exfalso; first | contradiction | omega)
  all_goals
   refine aX (aN rfl (aX (bW rfl func228 (Bf) ?_)))
   rintro _ _ ⟨rfl, rfl⟩
   refine dL rfl rfl (aV rfl (aA (aj (aI (aH (.inl rfl) results192 rfl ?_)))))
   exact ⟨by unfold jv; simp [*], H1⟩
def Dq (l : List Int) (x : Int) : Nat := if jG l.length x < l.length then lX (fun r => !jv r) l (jG l.length x + 1) else l.length
theorem Ho {l : List Int} {x : Int} {n k : Nat} (hn : jG l.length x = n) (h : n < l.length) (h1 : n + 1 ≤ k) (h2 : k ≤ l.length) (h3 : ∀ j, n + 1 ≤ j → j < k → (!jv (l.getD j 0)) = true) (h4 : k = l.length ∨ jv (l.getD k 0) = true) : Dq l x = k := by
  rw [Dq, hn, if_pos h]
  exact xG h1 h2 h3 (h4.imp_right fun h5 => by rw [h5]; rfl)
def Jp (l : List Int) (x : Int) : Nat := nD (fun r => !jv r) l (jG l.length x) - 1
theorem Qc {x : Int} (H : aB w0 w F) (hT : mD w0) (hr : iI w0 F .i32 v l) :
    fG prog 126 #[v, .int .i64 x] w fun v' w' => v' = .int .i64 (Dq l x) ∧ aB w0 w' F := by
  obtain ⟨a, c, hv, hac, Ox, _⟩ := (hr w H).open
  subst hv
  have hw := pU l.length x
  obtain ⟨n, hn⟩ : ∃ n, jG l.length x = n := ⟨_, rfl⟩
  rw [hn] at hw
  refine gG func126 ntmps126 ?_
  dsimp only [bf, Nat.reduceAdd]
  refine ay (ah (aV rfl (aA (aj (ay (ah (aN rfl (aN rfl (bW rfl func191 (vK) ?_)))))))))
  rintro _ _ ⟨rfl, rfl⟩
  rw [hn]
  refine aV rfl (aA (aj (ay (bF ?_))))
  refine gQ [(0, _)] (fun (k : Nat) => [(1, .int .i64 (k : Int))]) (fun (k : Nat) W => n ≤ k ∧ k ≤ l.length ∧ (∀ j, n + 1 ≤ j → j < k → (!jv (l.getD j 0)) = true) ∧ (n < k → k = l.length ∨ (!jv (l.getD k 0)) = true) ∧ aB w0 W F) (fun (k : Nat) => l.length - k) (n) (Sub.cons rfl (Sub.nil _)) (Sub.cons rfl (Sub.nil _)) ⟨by omega, by omega, fun j h1 h2 => absurd h1 (by omega), fun h => absurd h (by omega), H⟩ ?_
  rintro k w2 ⟨hk1, hk2, hk3, hk4, HL⟩
  dsimp only [List.cons_append, List.nil_append]
  refine ay (ay (ah (aN rfl (aN rfl (aU (fO underlying22 rfl) (aU (eF rfl rfl) (aA (aj (aP rfl (fun h1 => ?_) (fun h1 => ?_))))))))))
  · (try simp only [aF] at h1)
    try (exfalso; first | contradiction | omega)
    all_goals
      refine aO (aj (bF (ay (ah (aN rfl (aU (fC rfl rfl (by omega)) (aV rfl (aA (aj (ay (ah (aN rfl (aN rfl (aU (fO underlying22 rfl) (aU (fE rfl rfl) (eP rfl (fun h2 => ?_) (fun h2 => ?_)))))))))))))))))
      · (try simp only [aF] at h2)
        try (exfalso; first | contradiction | omega)
        all_goals
          refine bD (bD (bD (bD (bD (fP rfl rfl (aA (aj (wK (eU ?_)))))))))
          refine mM (by decide) ?_
          refine aZ (bK (aj (ay (ah (aN rfl (aV rfl (aA (aj (aI (aH (.inl rfl) results126 rfl ?_))))))))))
          exact ⟨by rw [Ho hn (k := k + 1) (by omega) (by omega) (by omega) (fun j h4 h5 => by by_cases e : j = k; (subst e; rcases hk4 (by omega) with h6 | h6; (omega); exact h6); exact hk3 j h4 (by omega)) (.inl (by omega))]; rfl, HL⟩
      · (try simp only [aF] at h2)
        try (exfalso; first | contradiction | omega)
        all_goals
          obtain ⟨a', c', hsl, _, _, hcell⟩ := (hr _ HL).open
          cases hsl
          obtain ⟨b, o, rfl, hq⟩ := hcell (by omega)
          have hqk := hq (k + 1) (by omega)
          refine aX (aN rfl (aX (aN rfl (aX (aU (gX underlying22 sizeOf21 rfl rfl (by omega)) (aX ?_))))))
          refine aU (kU (dB underlying21 rfl) rfl (by rw [show ((k : Int) + 1).toNat * 1 = k + 1 from by omega]; exact hqk)) ?_
          refine aX (bW rfl func192 (Dp HL hT) ?_)
          rintro _ w3 ⟨rfl, H3⟩
          have HN := H3
          refine dL rfl rfl (aA (aj (aP rfl (fun h3 => ?_) (fun h3 => ?_))))
          · (try simp only [aF] at h3)
            try (exfalso; first | contradiction | omega)
            all_goals
              refine eU ?_
              refine mM (by decide) ?_
              refine aZ (bK (aj (ay (ah (aN rfl (aV rfl (aA (aj (aI (aH (.inl rfl) results126 rfl ?_))))))))))
              exact ⟨by rw [Ho hn (k := k + 1) (by omega) (by omega) (by omega) (fun j h4 h5 => by by_cases e : j = k; (subst e; rcases hk4 (by omega) with h6 | h6; (omega); exact h6); exact hk3 j h4 (by omega)) (.inr (by assumption))]; rfl, H3⟩
          · (try simp only [aF] at h3)
            try (exfalso; first | contradiction | omega)
            all_goals
              refine aO (aQ ?_)
              refine eG (k + 1) ?_ ?_ ?_ ?_
              · exact (Sub.cons rfl (Sub.nil _))
              · exact (Sub.cons rfl (Sub.nil _))
              · (try dsimp only)
                first | done | exact ⟨by omega, by omega, fun j h4 h5 => by by_cases e : j = k; (subst e; rcases hk4 (by omega) with h6 | h6; (omega); exact h6); exact hk3 j h4 (by omega), fun _ => .inr (by have h9 := ‹jv (l.getD (k + 1) 0) = false›; rw [h9]; rfl), HN⟩
              · (try dsimp only); omega
  · (try simp only [aF] at h1)
    try (exfalso; first | contradiction | omega)
    all_goals
      refine eU (aZ (aZ (bK (aj (ay (ah (aN rfl (aV rfl (aA (aj (aI (aH (.inl rfl) results126 rfl ?_))))))))))))
      exact ⟨by by_cases h9 : n = l.length; (rw [Dq, hn, if_neg (by omega)]; congr 1; omega); rw [Ho hn (k := k) (by omega) (by omega) (by omega) hk3 (.inl (by omega))], HL⟩
theorem Qd {x : Int} (H : aB w0 w F) (hT : mD w0) (hr : iI w0 F .i32 v l) :
    fG prog 124 #[v, .int .i64 x] w fun v' w' => v' = .int .i64 (Jp l x) ∧ aB w0 w' F := by
  obtain ⟨a, c, hv, hac, Ox, _⟩ := (hr w H).open
  subst hv
  have hw := pU l.length x
  obtain ⟨n, hn⟩ : ∃ n, jG l.length x = n := ⟨_, rfl⟩
  rw [hn] at hw
  refine gG func124 ntmps124 ?_
  dsimp only [bf, Nat.reduceAdd]
  refine ay (ah (aV rfl (aA (aj (ay (ah (aN rfl (aN rfl (bW rfl func191 (vK) ?_)))))))))
  rintro _ _ ⟨rfl, rfl⟩
  rw [hn]
  refine aV rfl (aA (aj (ay (bF ?_))))
  refine gQ [(0, _)] (fun (k : Nat) => [(1, .int .i64 (k : Int))]) (fun (k : Nat) W => k ≤ n ∧ (∀ j, k ≤ j → j < n → (!jv (l.getD j 0)) = true) ∧ aB w0 W F) (fun (k : Nat) => k) (n) (Sub.cons rfl (Sub.nil _)) (Sub.cons rfl (Sub.nil _)) ⟨by omega, fun j h1 h2 => absurd h1 (by omega), H⟩ ?_
  rintro k w2 ⟨hk1, hk3, HL⟩
  dsimp only [List.cons_append, List.nil_append]
  refine ay (ay (ah (aN rfl (aU (dF rfl rfl) (aA (aj (aP rfl (fun h1 => ?_) (fun h1 => ?_))))))))
  · (try simp only [aF] at h1)
    try (exfalso; first | contradiction | omega)
    all_goals
      refine aO (aj (bF (ay (ah (aN rfl (aU (iP rfl rfl (by omega)) (aV rfl (aA (aj (ay ?_))))))))))
      obtain ⟨a', c', hsl, _, _, hcell⟩ := (hr _ HL).open
      cases hsl
      obtain ⟨b, o, rfl, hq⟩ := hcell (by omega)
      have hqk := hq (k - 1) (by omega)
      refine ah (aN rfl (aN rfl (aU (gX underlying22 sizeOf21 rfl rfl (by omega)) ?_)))
      refine aU (kU (dB underlying21 rfl) rfl (by rw [show ((k : Int) - 1).toNat * 1 = k - 1 from by omega]; exact hqk)) ?_
      refine bW rfl func192 (Dp HL hT) ?_
      rintro _ w3 ⟨rfl, H3⟩
      have HN := H3
      refine aA (aj (aP rfl (fun h2 => ?_) (fun h2 => ?_)))
      · (try simp only [aF] at h2)
        try (exfalso; first | contradiction | omega)
        all_goals
          refine eU ?_
          refine mM (by decide) ?_
          refine aZ (bK (aj (ay (ah (aN rfl (aV rfl (aA (aj (aI (aH (.inl rfl) results124 rfl ?_))))))))))
          exact ⟨by rw [Jp, hn, back_eq (k := k) hk1 hw hk3 (.inr (by have h9 := ‹jv (l.getD (k - 1) 0) = true›; rw [h9]; rfl))]; congr 1; omega, H3⟩
      · (try simp only [aF] at h2)
        try (exfalso; first | contradiction | omega)
        all_goals
          refine aO (aQ ?_)
          refine eG (k - 1) ?_ ?_ ?_ ?_
          · exact (Sub.yc rfl (by rw [show ((k - 1 : Nat) : Int) = (k : Int) - 1 from by omega]) (Sub.nil _))
          · exact (Sub.cons rfl (Sub.nil _))
          · (try dsimp only)
            first | done | exact ⟨by omega, fun j h4 h5 => by by_cases e : j = k - 1; (subst e; have h9 := ‹jv (l.getD (k - 1) 0) = false›; rw [h9]; rfl); exact hk3 j (by omega) h5, HN⟩
          · (try dsimp only); omega
  · (try simp only [aF] at h1)
    try (exfalso; first | contradiction | omega)
    all_goals
      refine eU (aZ (aZ (bK (aj (ay (ah (aN rfl (aV rfl (aA (aj (aI (aH (.inl rfl) results124 rfl ?_))))))))))))
      exact ⟨by rw [Jp, hn, back_eq (k := k) hk1 hw hk3 (.inl (by omega))]; congr 1; omega, HL⟩
end
end Go.Proofs.YtgndbccogcofjaaGreatDoor
end
section
namespace Go.Proofs.YtgndbccogcofjaaGreatDoor
open Go.RowKit
theorem Hr {l m : List Int} {i : Nat} (h1 : i < l.length) (h2 : i < m.length) (h : l.take i = m.take i) (e : l.getD i 0 = m.getD i 0) : l.take (i + 1) = m.take (i + 1) := by
  rw [List.take_succ_eq_append_getElem h1, List.take_succ_eq_append_getElem h2, h]
  simp [List.getD_eq_getElem?_getD, h1, h2] at e
  rw [e]
end Go.Proofs.YtgndbccogcofjaaGreatDoor
end
section
namespace Go.Proofs.YtgndbccogcofjaaGreatDoor
open Go.RowKit
open _root_.Go.Proofs.Tryz
theorem zx : (prog.info? 21).map (fun i => (i.zero, i.size, i.bytes)) = some (some (.int .i32 0), 1, 4) := by kernel_rfl
theorem nG {w0 w : World} {F : HP} {v : Value} {l : List Int} (H : aB w0 w F) (hr : iI w0 F .i32 v l) (hb : l.length * 4 ≤ 140737488355328) :
    fG prog 178 #[v] w fun v' w' => aB w0 w' (gW 21 .i32 v' l • F) := by
  obtain ⟨a, c, rfl, h1, h2, h3⟩ := (hr w H).open
  refine gG func178 ntmps178 ?_
  dsimp only [bf, Nat.reduceAdd]
  refine ay (ah (aV rfl (aA (aj (ay (ay (ah (aN rfl (aU (wG underlying22 rfl rfl) (aA (aj (aP rfl (fun h1 => ?_) (fun h1 => ?_)))))))))))))
  · (try simp only [aF] at h1)
    try (exfalso; first | contradiction | omega)
    all_goals
      refine ay (ah (aV rfl (aA (aj (aI (aK (aH (.inl rfl) results178 rfl ?_)))))))
      obtain rfl : a = none := by simpa using h1
      obtain rfl : l = [] := by
        cases l with
        | nil => rfl
        | cons x l => obtain ⟨b, o, e, _⟩ := h3 (by simp); cases e
      exact H.jf none
  · (try simp only [aF] at h1)
    try (exfalso; first | contradiction | omega)
    all_goals
      refine aO (aj (ay (ah (iy (pG (vs := []) H underlying22 sizeOf21 zeroValue21 rfl rfl rfl (by decide) (by simp)) ?_))))
      rintro _ w1 H1
      refine aN rfl (iy (kR (l := []) H1 (hr.under _ H1) underlying22 zx rfl rfl (by simp; omega) (by simpa using hb)) ?_)
      rintro _ w2 H2
      refine aV rfl (aA (aj (aI (aH (.inl rfl) results178 rfl ?_))))
      exact H2
theorem Qe {w0 w : World} {F : HP} {n : Int} (H : aB w0 w F) (h0 : 0 ≤ n) (hb : n ≤ 70368744177664) :
  fG prog 196 #[.slice none 0 0, .int .i64 n] w fun v' w' => aB w0 w' (gW 21 .i32 v' [] • F) := by
 refine gG func196 ntmps196 ?_
 dsimp only [bf, Nat.reduceAdd]
 refine ay (ah (aV rfl (aA (aj (ay (ay (ah (aN rfl (aU (eF rfl rfl) (aA (aj (aP rfl (fun h => by exfalso; (try simp only [aF] at h); first | contradiction | omega | (simp at h <;> omega)) (fun h1 => ?_)))))))))))))
 (try simp only [aF] at h1)
 refine aO (aj (ay (ay (ah (aN rfl (aN rfl (aU (UA underlying22 rfl) (aN rfl (aU (fO underlying22 rfl) (aU (iP rfl rfl (by omega)) (aU (iP rfl rfl (by omega)) (aV rfl (aA (aj (ay (ah (aN rfl (aU (dF rfl rfl) (aA (aj (aP rfl (fun h2 => ?_) (fun h2 => ?_))))))))))))))))))))))
 ·(try simp only [aF] at h2)
  try (exfalso; first | contradiction | omega)
  all_goals
   refine ah (aN rfl (aN rfl (aU (UA underlying22 rfl) (aU (qg underlying22 sizeOf21 rfl rfl rfl (by omega)) (aN rfl (iy (CZ H underlying22 underlying3 zx rfl rfl (by omega) (by omega) (by omega)) ?_))))))
   rintro _ w1 ⟨g, c, cur, rfl, hc1, hc2, hc3, H1⟩
   refine aN rfl (aU (fO underlying22 rfl) (aU (qg underlying22 sizeOf21 rfl rfl rfl (by omega)) (aV rfl (aA (aj (ay (ah (aN rfl (aV rfl (aA (aj (aI (aH (.inl rfl) results196 rfl ?_)))))))))))))
   exact H1.vJ (o := 0) (by simp) (FQ 1 0 g 0 _ c) (by simp) hc2 (by simpa using hc3) (by simp)
 ·(try simp only [aF] at h2)
  try (exfalso; first | contradiction | omega)
  all_goals
   refine aO (aj (ay (ah (aN rfl (aV rfl (aA (aj (aI (aH (.inl rfl) results196 rfl ?_)))))))))
   exact H.jf none
theorem KZ {w0 w : World} {F : HP} {v : Value} {vs : List Value} {ls : List (List Int)} (H : aB w0 w F) (hv : KF w0 F 1 v ls.length vs) (hls : ∀ k, k < ls.length → iI w0 F .i32 (vs.getD k undef) (ls.getD k [])) (hb : ls.flatten.length * 4 ≤ 140737488355328) :
  fG prog 128 #[v] w fun v' w' => aB w0 w' (gW 21 .i32 v' ls.flatten • F) := by
 obtain ⟨_, a, c, rfl, hc1, hc2, _⟩ := hv w H
 refine gG func128 ntmps128 ?_
 dsimp only [bf, Nat.reduceAdd]
 refine ay (ah (aV rfl (aA (aj (ay (ah (aV rfl (aA (aj (ay (ay (ah (aN rfl (aU (fO underlying54 rfl) (aN rfl (aA (aj (bF ?_))))))))))))))))))
 refine gQ [(0, _), (9, _), (10, _)] (fun (k : Nat) => [(3, .int .i64 ((ls.take k).flatten.length : Int)), (11, .int .i64 (k : Int))]) (fun (k : Nat) W => k ≤ ls.length ∧ aB w0 W F) (fun (k : Nat) => ls.length - k) (0) (Sub.cons rfl (Sub.cons rfl (Sub.cons rfl (Sub.nil _)))) (Sub.yc rfl (by simp) (Sub.yc rfl (rfl) (Sub.nil _))) ⟨by omega, H⟩ ?_
 rintro k w1 ⟨hk, HL⟩
 dsimp only [List.cons_append, List.nil_append]
 refine ay (ah (aU (eF rfl rfl) (aA (aj (ay (aP rfl (fun h1 => ?_) (fun h1 => ?_)))))))
 ·(try simp only [aF] at h1)
  try (exfalso; first | contradiction | omega)
  all_goals
   refine aO (aj (ay (bF (ay ?_))))
   have hk1 : k < ls.length := by omega
   obtain ⟨b, o, rfl, hc⟩ := hv.cell HL (j := k) (by omega)
   obtain ⟨ak, ck, ek, hk2, hk3, _⟩ := (hls k hk1 _ HL).open
   rw [ek] at hc
   have hfl := GN ls (k + 1)
   rw [xC ls hk1, List.length_append] at hfl
   refine ah (aU (gX underlying54 sizeOf22 rfl rfl (by omega)) ?_)
   refine aU (kU (dB underlying22 rfl) rfl (by rw [show ((k : Int).toNat * 1) = k from by omega]; exact hc)) ?_
   refine aV rfl (aA (aj (ay (ah (aN rfl (aN rfl (aU (fO underlying22 rfl) (aU (fC rfl rfl (by omega)) (aV rfl (aA (aj (ay (ah (aN rfl (aU (eF rfl rfl) (aA (aj (aP rfl (fun h => by exfalso; (try simp only [aF] at h); first | contradiction | omega | (simp at h <;> omega)) (fun h2 => ?_)))))))))))))))))))
   (try simp only [aF] at h2)
   refine aO (aQ (aj (ah (aU (fC rfl rfl (by omega)) (aN rfl (aA ?_))))))
   refine eG (k + 1) ?_ ?_ ?_ ?_
   ·exact (Sub.yc rfl (by rw [xC ls hk1, List.length_append, Int.natCast_add]) (Sub.cons rfl (Sub.nil _)))
   ·exact (Sub.cons rfl (Sub.cons rfl (Sub.cons rfl (Sub.nil _))))
   ·(try dsimp only)
    first | done | exact ⟨by omega, HL⟩
   ·(try dsimp only); omega
 ·(try simp only [aF] at h1)
  try (exfalso; first | contradiction | omega)
  all_goals
   refine eU (aZ (aZ (bK (aj (ay (ah (aN rfl (bW rfl func196 (Qe HL (by omega) (by have := GN ls k; omega)) ?_))))))))
   rintro vg w2 H2
   refine aV rfl (aA (aj (ay (ay (ah (aN rfl (aU (fO underlying54 rfl) (aN rfl (aA (aj (bF ?_)))))))))))
   refine gQ [(25, _), (26, _)] (fun (⟨k, u⟩ : Nat × Value) => [(6, u), (27, .int .i64 (k : Int))]) (fun (⟨k, u⟩ : Nat × Value) W => k ≤ ls.length ∧ aB w0 W (gW 21 .i32 u (ls.take k).flatten • F)) (fun (⟨k, u⟩ : Nat × Value) => ls.length - k) ((0, vg)) (Sub.cons rfl (Sub.cons rfl (Sub.nil _))) (Sub.cons rfl (Sub.cons rfl (Sub.nil _))) ⟨by omega, H2⟩ ?_
   rintro ⟨k, u⟩ w3 ⟨hk, HM⟩
   dsimp only [List.cons_append, List.nil_append]
   refine ay (ah (aU (eF rfl rfl) (aA (aj (ay (aP rfl (fun h3 => ?_) (fun h3 => ?_)))))))
   ·(try simp only [aF] at h3)
    try (exfalso; first | contradiction | omega)
    all_goals
     refine aO (aj (ay (bF (ay ?_))))
     have hk1 : k < ls.length := by omega
     obtain ⟨b, o, rfl, hc⟩ := hv.cell HM.right (j := k) (by omega)
     have hrk := hls k hk1
     have hfl := GN ls (k + 1)
     rw [xC ls hk1, List.length_append] at hfl
     refine ah (aU (gX underlying54 sizeOf22 rfl rfl (by omega)) ?_)
     refine aU (kU (dB underlying22 rfl) rfl (by rw [show ((k : Int).toNat * 1) = k from by omega]; exact hc)) ?_
     refine aV rfl (aA (aj (ah (aN rfl (aN rfl (iy (kR HM (hrk _ HM.right) underlying22 zx rfl rfl (by omega) (by omega)) ?_))))))
     rintro va w4 H4
     refine aV rfl (aA (aQ (aj (ah (aU (fC rfl rfl (by omega)) (aN rfl (aA ?_)))))))
     refine eG ((k + 1, va)) ?_ ?_ ?_ ?_
     ·exact (Sub.cons rfl (Sub.cons rfl (Sub.nil _)))
     ·exact (Sub.cons rfl (Sub.cons rfl (Sub.nil _)))
     ·(try dsimp only)
      first | done | exact ⟨by omega, by rw [xC ls hk1]; exact H4⟩
     ·(try dsimp only); omega
   ·(try simp only [aF] at h3)
    try (exfalso; first | contradiction | omega)
    all_goals
     refine eU (aZ (aZ (bK (aj (ay (ah (aN rfl (aV rfl (aA (aj (aI (aH (.inl rfl) results128 rfl ?_))))))))))))
     rw [List.take_of_length_le (by omega)] at HM; exact HM
theorem wQ {w0 w : World} {F : HP} {b : Nat} {T : TypeId} {u1 u2 : Value} {l1 l2 : List Int} (H : aB w0 w (dH b (.cells #[u1, u2] T (0, 0)) • F)) (h1 : iI w0 (dH b (.cells #[u1, u2] T (0, 0)) • F) .i32 u1 l1) (h2 : iI w0 (dH b (.cells #[u1, u2] T (0, 0)) • F) .i32 u2 l2)
    (hb : (l1.length + l2.length) * 4 ≤ 140737488355328) :
    fG prog 128 #[.slice (some ⟨b, 0, none⟩) 2 2] w fun v' w' => aB w0 w' (gW 21 .i32 v' (l1 ++ l2) • dH b (.cells #[u1, u2] T (0, 0)) • F) := by
  have := KZ (ls := [l1, l2]) (vs := [u1, u2]) (v := .slice (some ⟨b, 0, none⟩) 2 2) H (fun W HW => ⟨rfl, _, 2, rfl, by simp, by decide, fun _ => ⟨b, 0, rfl, fun j hj => ?_⟩⟩) (fun k hk => ?_) (by simpa using hb)
  · simpa using this
  · refine gK HW.get.2 ?_
    simp at hj
    match j, hj with
    | 0, _ => rfl
    | 1, _ => rfl
  · simp at hk
    match k, hk with
    | 0, _ => exact h1
    | 1, _ => exact h2
end Go.Proofs.YtgndbccogcofjaaGreatDoor
end
section
namespace Go.Proofs.YtgndbccogcofjaaGreatDoor
open Go.RowKit
open _root_.Go.Proofs.Tryz
theorem Jq {s i j : Nat} {v : Value} (h : v.oneCell' = true) : (ni s i j v).oneCell' = true := by cases v <;> simp_all [ni, Value.oneCell']
def eu (v : Value) (f t pt mk : Int) : Array Value := #[.bool true, v, .int .i64 f, .int .i64 t, .int .i64 pt, .int .i64 mk]
theorem Tj {a b : Value} (h : a.oneCell' = true) (k : b.oneCell' = true) : ∀ u ∈ [a, b], u.oneCell' = true := by
  intro u hu; simp at hu; rcases hu with rfl | rfl
  · exact h
  · exact k
section
variable {v u : Value} {f t pt mk x : Int}
theorem je : (eu v f t pt mk).size = 6 := rfl
theorem Oz : (eu v f t pt mk).setIfInBounds 1 u = eu u f t pt mk := rfl
theorem vM : (eu v f t pt mk).setIfInBounds 2 (.int .i64 x) = eu v x t pt mk := rfl
theorem yN : (eu v f t pt mk).setIfInBounds 3 (.int .i64 x) = eu v f x pt mk := rfl
theorem tY : (eu v f t pt mk).setIfInBounds 4 (.int .i64 x) = eu v f t x mk := rfl
theorem lN : (eu v f t pt mk).setIfInBounds 5 (.int .i64 x) = eu v f t pt x := rfl
end
def dW (p : Nat) (L : List Int) (pt mk : Int) : HP := tN fun (x : Value × List Int × Nat × Nat) =>
  fact (x.2.2.1 ≤ x.2.2.2 ∧ x.2.2.2 ≤ x.2.1.length ∧ L = x.2.1.take x.2.2.1 ++ x.2.1.drop x.2.2.2 ∧ L.length ≤ 1024 ∧ x.2.1.length ≤ 4096 ∧ (0 ≤ pt ∧ pt ≤ L.length) ∧ (-1 ≤ mk ∧ mk ≤ L.length)) •
    dH p (.cells (eu x.1 x.2.2.1 x.2.2.2 pt mk) 184 (0, 0)) • gW 21 .i32 x.1 x.2.1
section
variable {w0 w : World} {F : HP} {p : Nat} {L : List Int} {pt mk : Int}
theorem aB.buf (H : aB w0 w (dW p L pt mk • F)) : ∃ (a : Option Addr) (c : Nat) (xs : List Int) (f t : Nat), f ≤ t ∧ t ≤ xs.length ∧ L = xs.take f ++ xs.drop t ∧ L.length ≤ 1024 ∧ xs.length ≤ 4096 ∧ (0 ≤ pt ∧ pt ≤ L.length) ∧ (-1 ≤ mk ∧ mk ≤ L.length) ∧ xs.length ≤ c ∧ (c : Int) ≤ 9223372036854775807 ∧ L.length + t = xs.length + f ∧
    aB w0 w (dH p (.cells (eu (.slice a xs.length c) f t pt mk) 184 (0, 0)) • gW 21 .i32 (.slice a xs.length c) xs • F) := by
  obtain ⟨⟨v, xs, f, t⟩, H⟩ := H.ng
  obtain ⟨⟨h1, h2, h3, h4, h5, h6, h7⟩, H⟩ := H.flat.fact
  have H := H.flat
  obtain ⟨a, c, hv, hc1, hc2, _⟩ := (H.swap.aS).form
  dsimp only at *
  subst hv
  refine ⟨a, c, xs, f, t, h1, h2, h3, h4, h5, h6, h7, hc1, hc2, ?_, H⟩
  rw [h3]; simp; omega
theorem aB.kG {v : Value} {xs : List Int} {f t : Nat} (h1 : f ≤ t) (h2 : t ≤ xs.length) (h3 : L = xs.take f ++ xs.drop t) (h4 : L.length ≤ 1024) (h5 : xs.length ≤ 4096) (h6 : 0 ≤ pt ∧ pt ≤ L.length) (h7 : -1 ≤ mk ∧ mk ≤ L.length)
    (H : aB w0 w (dH p (.cells (eu v f t pt mk) 184 (0, 0)) • gW 21 .i32 v xs • F)) : aB w0 w (dW p L pt mk • F) :=
  aB.iH (v, xs, f, t) (aB.deep (aB.kE ⟨h1, h2, h3, h4, h5, h6, h7⟩ (aB.deep H)))
theorem nU (t : TypeId) {cs : Array Value} {fr : Nat × Nat} {m : Bool} (hb : w.heap[p]? = some (.cells cs t fr)) (h0 : cs[0]? = some (.bool m)) :
  fG prog 185 #[.pointer (some ⟨p, 0, none⟩)] w fun v w' => v = .bool (!m) ∧ w = w' := by
 refine gG func185 ntmps185 ?_
 dsimp only [bf, Nat.reduceAdd]
 refine ay (ah (aV rfl (aA (aj (ay (ah (aN rfl (aU (iq underlying27 rfl rfl) (eP rfl (fun h => by exfalso; (try simp only [aF] at h); simp at h) (fun h1 => ?_))))))))))
 (try simp only [aF] at h1)
 refine aX (aN rfl (aX (bM rfl (aX (bG 0 underlying184 rfl sizeOf4 rfl (aX (dX underlying4 rfl hb h0 (aX (aU (jY rfl) (dL rfl rfl (aV rfl (aA (aj (aI (aH (.inl rfl) results185 rfl ?_)))))))))))))))
 exact ⟨rfl, rfl⟩
theorem lg (H : aB w0 w (dW p L pt mk • F)) : fG prog 186 #[.pointer (some ⟨p, 0, none⟩)] w fun v w' => v = .int .i64 L.length ∧ rZ w w' := by
 obtain ⟨a, c, xs, f, t, h1, h2, h3, h4, h5, h6, h7, hc1, hc2, hl, H1⟩ := H.buf
 have hb := H1.get.2
 refine gG func186 ntmps186 ?_
 dsimp only [bf, Nat.reduceAdd]
 refine ay (ah (aV rfl (aA (aj (ay (ay (ah (aN rfl (bW rfl func185 (nU _ hb rfl) ?_)))))))))
 rintro _ _ ⟨rfl, rfl⟩
 refine aA (aj (mO (aO (aj (ay ?_)))))
 refine kM (n := 16) [0, 1, 2, 3, 4, 5, 6, 7, 8, 9, 10, 11, 12, 13, 14, 15] (fun W => W.heap = w.heap) (by kernel_rfl) (by kernel_rfl) rfl ?_
 have hS0 : (fun W => W.heap = w.heap) (w.drew) := rfl
 have H3d := H1.drew
 refine iD 0 rfl hS0 rfl (jS 1 rfl hS0 rfl (gV 2 rfl hS0 1 underlying184 rfl sizeOf22 rfl ?_))
 refine jB 3 rfl hS0 (fun W hW => jR underlying22 rfl (by rw [hW]; exact hb) rfl) ?_
 refine jr 4 rfl hS0 (fun _ => fO underlying22 rfl) (iD 5 rfl hS0 rfl (jS 6 rfl hS0 rfl (gV 7 rfl hS0 3 underlying184 rfl sizeOf3 rfl ?_)))
 refine jB 8 rfl hS0 (fun W hW => jR underlying3 rfl (by rw [hW]; exact hb) rfl) ?_
 refine iD 9 rfl hS0 rfl (jS 10 rfl hS0 rfl (gV 11 rfl hS0 2 underlying184 rfl sizeOf3 rfl ?_))
 refine jB 12 rfl hS0 (fun W hW => jR underlying3 rfl (by rw [hW]; exact hb) rfl) ?_
 refine jr 13 rfl hS0 (fun _ => iP rfl rfl (by omega)) (jr 14 rfl hS0 (fun _ => iP rfl rfl (by omega)) (jr 15 rfl hS0 (fun _ => eH rfl) (qQ (aj (aI (aH (.inl rfl) results186 rfl ?_))))))
 exact ⟨by congr 1; omega, rZ.refl _ |>.drew⟩
theorem qj (H : aB w0 w (dW p L pt mk • F)) : fG prog 113 #[.pointer (some ⟨p, 0, none⟩)] w fun v w' => v = .int .i64 pt ∧ w = w' := by
 obtain ⟨a, c, xs, f, t, h1, h2, h3, h4, h5, h6, h7, hc1, hc2, hl, H1⟩ := H.buf
 have hb := H1.get.2
 refine gG func113 ntmps113 ?_
 dsimp only [bf, Nat.reduceAdd]
 refine ay (ah (aV rfl (aA (aj (ay (ay (ah (aN rfl (bW rfl func185 (nU _ hb rfl) ?_)))))))))
 rintro _ _ ⟨rfl, rfl⟩
 refine aA (aj (mO (aO (aj (ay (ah (aN rfl (bM rfl (bG 4 underlying184 rfl sizeOf3 rfl (dX underlying3 rfl hb rfl (aV rfl (aA (aj (aI (aH (.inl rfl) results113 rfl ?_)))))))))))))))
 exact ⟨rfl, rfl⟩
theorem Ht (H : aB w0 w (dW p L pt mk • F)) : fG prog 114 #[.pointer (some ⟨p, 0, none⟩)] w fun v w' => v = .int .i64 mk ∧ w = w' := by
 obtain ⟨a, c, xs, f, t, h1, h2, h3, h4, h5, h6, h7, hc1, hc2, hl, H1⟩ := H.buf
 have hb := H1.get.2
 refine gG func114 ntmps114 ?_
 dsimp only [bf, Nat.reduceAdd]
 refine ay (ah (aV rfl (aA (aj (ay (ay (ah (aN rfl (bW rfl func185 (nU _ hb rfl) ?_)))))))))
 rintro _ _ ⟨rfl, rfl⟩
 refine aA (aj (mO (aO (aj (ay (ah (aN rfl (bM rfl (bG 5 underlying184 rfl sizeOf3 rfl (dX underlying3 rfl hb rfl (aV rfl (aA (aj (aI (aH (.inl rfl) results114 rfl ?_)))))))))))))))
 exact ⟨rfl, rfl⟩
theorem qZ (H : aB w0 w (dW p L pt mk • F)) : fG prog 112 #[.pointer (some ⟨p, 0, none⟩)] w fun v w' => aB w0 w' (gW 21 .i32 v L • dW p L pt mk • F) := by
 obtain ⟨a, c, xs, f, t, h1, h2, h3, h4, h5, h6, h7, hc1, hc2, hl, H1⟩ := H.buf
 have hb := H1.get.2
 refine gG func112 ntmps112 ?_
 dsimp only [bf, Nat.reduceAdd]
 refine ay (ah (aV rfl (aA (aj (ay (ay (ah (aN rfl (bW rfl func185 (nU _ hb rfl) ?_)))))))))
 rintro _ _ ⟨rfl, rfl⟩
 refine aA (aj (mO (aO (aj (ay ?_)))))
 refine kM (n := 21) [0, 1, 2, 3, 4, 5, 6, 7, 8, 9, 10, 11, 12, 13, 14, 15, 16, 17, 18, 19, 20] (fun W => W.heap[p]? = some (.cells (eu (.slice a xs.length c) f t pt mk) 184 (0, 0))) (by kernel_rfl) (by kernel_rfl) rfl ?_
 have hS0 : (fun W => W.heap[p]? = some (.cells (eu (.slice a xs.length c) f t pt mk) 184 (0, 0))) (w.drew) := hb
 have H3d := H1.drew
 refine iD 0 rfl hS0 rfl (jS 1 rfl hS0 rfl (gV 2 rfl hS0 1 underlying184 rfl sizeOf22 rfl (jB 3 rfl hS0 (fun W hW => jR underlying22 rfl hW rfl) (iD 4 rfl hS0 rfl (jS 5 rfl hS0 rfl (gV 6 rfl hS0 2 underlying184 rfl sizeOf3 rfl (jB 7 rfl hS0 (fun W hW => jR underlying3 rfl hW rfl) (jr 8 rfl hS0 (fun _ => qg underlying22 sizeOf21 rfl rfl rfl (by omega)) (iD 9 rfl hS0 rfl (jS 10 rfl hS0 rfl (gV 11 rfl hS0 1 underlying184 rfl sizeOf22 rfl (jB 12 rfl hS0 (fun W hW => jR underlying22 rfl hW rfl) (iD 13 rfl hS0 rfl (jS 14 rfl hS0 rfl (gV 15 rfl hS0 3 underlying184 rfl sizeOf3 rfl (jB 16 rfl hS0 (fun W hW => jR underlying3 rfl hW rfl) (jr 17 rfl hS0 (fun _ => qg underlying22 sizeOf21 rfl rfl rfl (by omega)) (kQ 18 rfl (MS (vs := [ni 1 0 f (.slice a xs.length c), ni 1 t xs.length (.slice a xs.length c)]) H3d underlying54 sizeOf22 zeroValue22 rfl rfl rfl (by decide) (Tj (Jq rfl) (Jq rfl))) ?_))))))))))))))))))
 rintro _ w2 ⟨b2, rfl, H2⟩
 have hS2 : (fun W => W.heap[p]? = some (.cells (eu (.slice a xs.length c) f t pt mk) 184 (0, 0))) w2 := H2.swap.get.2
 refine zf hS2 ?_
 refine kQ 19 rfl (wJ rfl func128 (wQ (l1 := xs.take f) (l2 := xs.drop t) H2 (fun W HW => iw.upto HW.EP.aS (by omega)) (fun W HW => iw.from HW.EP.aS (by omega)) (by simp; omega))) ?_
 rintro u w3 H3
 have hS3 : (fun W => W.heap[p]? = some (.cells (eu (.slice a xs.length c) f t pt mk) 184 (0, 0))) w3 := H3.EP.get.2
 refine zf hS3 ?_
 refine jr 20 rfl hS3 (fun _ => eH rfl) (qQ (aj (aI (aH (.inl rfl) results112 rfl ?_))))
 rw [← h3] at H3
 exact (aB.kG h1 h2 h3 h4 h5 h6 h7 H3.swap.right.d3).swap
theorem Jr {v : Value} {l : List Int} (H : aB w0 w F) (hr : iI w0 F .i32 v l) (hl : l.length ≤ 1024) : fG prog 184 #[v] w fun v' w' => ∃ p, v' = .tuple #[.pointer (some ⟨p, 0, none⟩), .int .i64 0] ∧ aB w0 w' (dW p l l.length (-1) • F) := by
 obtain ⟨a, c, rfl, _, _, _⟩ := (hr w H).open
 refine gG func184 ntmps184 ?_
 dsimp only [bf, Nat.reduceAdd]
 refine ay (ah (aV rfl (aV rfl (aA (aj (ay (ay (ah (aN rfl (aU (fO underlying22 rfl) (aU (dF rfl rfl) (aA (aj (aP rfl (fun h => by exfalso; (try simp only [aF] at h); first | contradiction | omega | (simp at h <;> omega)) (fun h1 => ?_)))))))))))))))
 (try simp only [aF] at h1)
 refine aO (aj (ay (ah (aN rfl (bW rfl func178 (nG H hr (by omega)) ?_)))))
 rintro u w1 H1
 obtain ⟨au, cu, hu, _⟩ := (H1.aS).form
 subst hu
 refine aN rfl (aU (fO underlying22 rfl) (aU (fF (pl := #[(0, 1), (1, 1), (2, 1), (3, 1), (4, 1), (5, 1)]) (eu (.slice au l.length cu) 0 0 l.length (-1)) underlying184 zeroValue184 (fun w => by kernel_rfl) rfl (by kernel_rfl)) (iy (MR H1 rfl) ?_)))
 rintro _ w2 ⟨b2, rfl, H2⟩
 refine aV rfl (aA (aj (ay ?_)))
 have HB : aB w0 w2 (dH b2 (.cells (eu (.slice au l.length cu) 0 0 l.length (-1)) 184 (0, 0)) • gW 21 .i32 (.slice au l.length cu) l • F) := H2
 refine ah (aN rfl (aN rfl (aN rfl (aU (fO underlying22 rfl) (aN rfl (aU (fO underlying22 rfl) (bM rfl (bG 2 underlying184 rfl sizeOf3 rfl (aJ (dJ HB sizeOf3 rfl rfl rfl (by rw [je]; decide)) ?_)))))))))
 rintro _ w3 HB1
 rw [vM] at HB1
 refine bM rfl (bG 3 underlying184 rfl sizeOf3 rfl (aJ (dJ HB1 sizeOf3 rfl rfl rfl (by rw [je]; decide)) ?_))
 rintro _ w4 HB2
 rw [yN] at HB2
 refine aA (aj (ay (ah (aN rfl (aV rfl (aV rfl (aA (aj (aI (mW (.inl rfl) results184 rfl rfl ?_))))))))))
 exact ⟨_, rfl, aB.kG (f := l.length) (t := l.length) (Nat.le_refl _) (Nat.le_refl _) (by simp) hl (by omega) (by omega) (by omega) HB2⟩
end
end Go.Proofs.YtgndbccogcofjaaGreatDoor
end
