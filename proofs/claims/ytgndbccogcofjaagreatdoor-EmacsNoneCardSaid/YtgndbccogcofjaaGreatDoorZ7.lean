import Derived.Test.YtgndbccogcofjaaGreatDoorZ2
import Derived.Test.YtgndbccogcofjaaGreatDoorZ5
import Derived.Test.YtgndbccogcofjaaGreatDoorProg
import Derived.Test.YtgndbccogcofjaaGreatDoorZ3
import Derived.Test.YtgndbccogcofjaaGreatDoorZ4
set_option linter.unusedSimpArgs false
set_option linter.unusedVariables false
/- Texts of mine, joined, their names in short: Move Equal Slices Buf Buf2. -/
section
namespace Go.Proofs.YtgndbccogcofjaaGreatDoor
open Go.RowKit
open _root_.Go.Proofs.Tryz
def wQ (g : Int → Bool) (l : List Int) (at_ : Nat) : Nat := at_ + ((l.drop at_).takeWhile g).length
def yL (g : Int → Bool) (l : List Int) (at_ : Nat) : Nat := at_ - ((l.take at_).reverse.takeWhile g).length
theorem Hy {g : Int → Bool} : ∀ {l : List Int} {n : Nat}, n ≤ l.length → (∀ j, j < n → g (l.getD j 0) = true) → (n = l.length ∨ g (l.getD n 0) = false) → (l.takeWhile g).length = n
  | [], n, h, _, _ => by simp at h; simp [h]
  | x :: l, 0, _, _, h => by
    rcases h with h | h
    · simp at h
    · simp at h; simp [List.takeWhile, h]
  | x :: l, n + 1, h, k, h2 => by
    have h0 := k 0 (by omega)
    simp at h0
    have ih := Hy (l := l) (n := n) (by simpa using h) (fun j hj => by simpa using k (j + 1) (by omega)) (by simpa using h2)
    simp [List.takeWhile, h0, ih]
theorem Ju {g : Int → Bool} {l : List Int} {i k : Nat} (h1 : i ≤ k) (h2 : k ≤ l.length) (h3 : ∀ j, i ≤ j → j < k → g (l.getD j 0) = true) (h4 : k = l.length ∨ g (l.getD k 0) = false) : wQ g l i = k := by
  have := Hy (g := g) (l := l.drop i) (n := k - i) (by simp; omega) (fun j hj => by
    have := h3 (i + j) (by omega) (by omega)
    simpa [List.getD_eq_getElem?_getD] using this) (by
      rcases h4 with h4 | h4
      · exact .inl (by simp; omega)
      · right
        simpa [List.getD_eq_getElem?_getD, show i + (k - i) = k from by omega] using h4)
  unfold wQ
  omega
theorem back_eq {g : Int → Bool} {l : List Int} {i k : Nat} (h1 : k ≤ i) (h2 : i ≤ l.length) (h3 : ∀ j, k ≤ j → j < i → g (l.getD j 0) = true) (h4 : k = 0 ∨ g (l.getD (k - 1) 0) = false) : yL g l i = k := by
  have e : ∀ j, j < i → (l.take i).reverse.getD j 0 = l.getD (i - 1 - j) 0 := by
    intro j hj
    rw [List.getD_eq_getElem?_getD, List.getElem?_reverse (by simp; omega), List.length_take, Nat.min_eq_left h2, List.getElem?_take_of_lt (by omega), ← List.getD_eq_getElem?_getD]
  have := Hy (g := g) (l := (l.take i).reverse) (n := i - k) (by simp; omega) (fun j hj => by
    rw [e j (by omega)]; exact h3 _ (by omega) (by omega)) (by
      rcases h4 with h4 | h4
      · exact .inl (by simp; omega)
      · by_cases hk : k = 0
        · exact .inl (by simp; omega)
        · right
          rw [e _ (by omega), show i - 1 - (i - k) = k - 1 from by omega]; exact h4)
  unfold yL
  omega
theorem OT (g : Int → Bool) (l : List Int) {i : Nat} (h : i ≤ l.length) : i ≤ wQ g l i ∧ wQ g l i ≤ l.length := by
  have := (List.takeWhile_sublist g (l := l.drop i)).length_le
  simp at this
  unfold wQ; omega
theorem OU (g : Int → Bool) (l : List Int) (i : Nat) : yL g l i ≤ i := by unfold yL; omega
def ni (n : Nat) (x : Int) : Nat := (min (max x 0) n).toNat
theorem Ac (n : Nat) (x : Int) : ni n x ≤ n := by unfold ni; omega
section
variable {w0 w : World} {F G : HP} {v fv : Value} {l : List Int} {g : Int → Bool}
theorem Ad {x : Int} {a : Option Addr} {c : Nat} : eG prog 191 #[.slice a l.length c, .int .i64 x] w fun v' w' => v' = .int .i64 (ni l.length x) ∧ w = w' := by
 refine fP func191 ntmps191 ?_
 dsimp only [aX, Nat.reduceAdd]
 refine ay (ah (aV rfl (aA (aj (ay (ah (aO rfl (aW (TL rfl rfl) (aO rfl (aW (fB underlying22 rfl) (aW (Qb rfl rfl) (aV rfl (aA (aj (aJ (aH (.inl rfl) results191 rfl ?_))))))))))))))))
 exact ⟨by congr 1; unfold ni; omega, rfl⟩
theorem FB {i : Nat} (H : aB w0 w (G • F)) (hf : CZ prog w0 F fv g) (hr : iD w0 (G • F) .i32 v l) (hi : i ≤ l.length) :
    eG prog 197 #[v, .int .i64 i, fv] w fun v' w' => v' = .int .i64 (wQ g l i) ∧ aB w0 w' (G • F) := by
  obtain ⟨a, c, rfl, hac, OV, _⟩ := (hr w H).open
  refine fP func197 ntmps197 ?_
  dsimp only [aX, Nat.reduceAdd]
  refine ay (ah (aV rfl (aA (aj (ay (bg ?_))))))
  refine ig [(0, _), (2, _)] (fun (k : Nat) => [(1, .int .i64 (k : Int))]) (fun (k : Nat) W => i ≤ k ∧ k ≤ l.length ∧ (∀ j, i ≤ j → j < k → g (l.getD j 0) = true) ∧ aB w0 W (G • F)) (fun (k : Nat) => l.length - k) (i) (Sub.cons rfl (Sub.cons rfl (Sub.nil _))) (Sub.cons rfl (Sub.nil _)) ⟨by omega, by omega, fun j h1 h2 => absurd h1 (by omega), H⟩ ?_
  rintro k w1 ⟨hk1, hk2, hk3, HL⟩
  dsimp only [List.cons_append, List.nil_append]
  refine ay (ay (ah (aO rfl (aO rfl (aW (fB underlying22 rfl) (aW (eU rfl rfl) (fV rfl (fun h1 => ?_) (fun h1 => ?_))))))))
  · (try simp only [aI] at h1)
    try (exfalso; first | contradiction | omega)
    all_goals
      obtain ⟨a', c', hsl, _, _, hcell⟩ := (hr _ HL).open
      cases hsl
      obtain ⟨b, o, rfl, hq⟩ := hcell (by omega)
      have hqk := hq k (by omega)
      refine bf (aO rfl (bf (aO rfl (bf (aO rfl (bf (aW (iK underlying22 sizeOf21 rfl rfl (by omega)) (bf ?_))))))))
      refine aW (nU (iC underlying21 rfl) rfl (by rw [show (k : Int).toNat * 1 = k from by omega]; exact hqk)) ?_
      refine bf (jo (qI rfl rfl ((hf.2 _ _ HL _))) ?_)
      rintro _ w2 ⟨rfl, H2⟩
      have HN := H2
      refine fG rfl rfl (aA (aj (aQ rfl (fun h2 => ?_) (fun h2 => ?_))))
      · (try simp only [aI] at h2)
        try (exfalso; first | contradiction | omega)
        all_goals
          refine aS (aj (bg (ah (aO rfl (aW (fQ rfl rfl (by omega)) (aV rfl (aA (aP ?_))))))))
          refine fA (k + 1) ?_ ?_ ?_ ?_
          · exact (Sub.cons rfl (Sub.nil _))
          · exact (Sub.cons rfl (Sub.cons rfl (Sub.nil _)))
          · (try dsimp only)
            first | done | exact ⟨by omega, by omega, fun j h4 h5 => by by_cases e : j = k; (subst e; assumption); exact hk3 j h4 (by omega), HN⟩
          · (try dsimp only); omega
      · (try simp only [aI] at h2)
        try (exfalso; first | contradiction | omega)
        all_goals
          refine fH (aY (aY (bV (aj (ay (ah (aO rfl (aV rfl (aA (aj (aJ (aH (.inl rfl) results197 rfl ?_))))))))))))
          exact ⟨by rw [Ju hk1 hk2 hk3 (by first | (left; omega) | (right; assumption))], H2⟩
  · (try simp only [aI] at h1)
    try (exfalso; first | contradiction | omega)
    all_goals
      refine bC (bC (bC (bC (bC (bC (eY rfl rfl (aA (aj (nV (fH (aY (aY (bV (aj (ay (ah (aO rfl (aV rfl (aA (aj (aJ (aH (.inl rfl) results197 rfl ?_))))))))))))))))))))))
      exact ⟨by rw [Ju hk1 hk2 hk3 (by first | (left; omega) | (right; assumption))], HL⟩
theorem FC {i : Nat} (H : aB w0 w (G • F)) (hf : CZ prog w0 F fv g) (hr : iD w0 (G • F) .i32 v l) (hi : i ≤ l.length) :
    eG prog 199 #[v, .int .i64 i, fv] w fun v' w' => v' = .int .i64 (yL g l i) ∧ aB w0 w' (G • F) := by
  obtain ⟨a, c, rfl, hac, OV, _⟩ := (hr w H).open
  refine fP func199 ntmps199 ?_
  dsimp only [aX, Nat.reduceAdd]
  refine ay (ah (aV rfl (aA (aj (ay (bg ?_))))))
  refine ig [(0, _), (2, _)] (fun (k : Nat) => [(1, .int .i64 (k : Int))]) (fun (k : Nat) W => k ≤ i ∧ (∀ j, k ≤ j → j < i → g (l.getD j 0) = true) ∧ aB w0 W (G • F)) (fun (k : Nat) => k) (i) (Sub.cons rfl (Sub.cons rfl (Sub.nil _))) (Sub.cons rfl (Sub.nil _)) ⟨by omega, fun j h1 h2 => absurd h1 (by omega), H⟩ ?_
  rintro k w1 ⟨hk1, hk3, HL⟩
  dsimp only [List.cons_append, List.nil_append]
  refine ay (ay (ah (aO rfl (aW (dB rfl rfl) (fV rfl (fun h1 => ?_) (fun h1 => ?_))))))
  · (try simp only [aI] at h1)
    try (exfalso; first | contradiction | omega)
    all_goals
      obtain ⟨a', c', hsl, _, _, hcell⟩ := (hr _ HL).open
      cases hsl
      obtain ⟨b, o, rfl, hq⟩ := hcell (by omega)
      have hqk := hq (k - 1) (by omega)
      refine bf (aO rfl (bf (aO rfl (bf (aO rfl (bf (aW (gU rfl rfl (by omega)) (bf (aW (iK underlying22 sizeOf21 rfl rfl (by omega)) (bf ?_))))))))))
      refine aW (nU (iC underlying21 rfl) rfl (by rw [show ((k : Int) - 1).toNat * 1 = k - 1 from by omega]; exact hqk)) ?_
      refine bf (jo (qI rfl rfl ((hf.2 _ _ HL _))) ?_)
      rintro _ w2 ⟨rfl, H2⟩
      have HN := H2
      refine fG rfl rfl (aA (aj (aQ rfl (fun h2 => ?_) (fun h2 => ?_))))
      · (try simp only [aI] at h2)
        try (exfalso; first | contradiction | omega)
        all_goals
          refine aS (aj (bg (ah (aO rfl (aW (gU rfl rfl (by omega)) (aV rfl (aA (aP ?_))))))))
          refine fA (k - 1) ?_ ?_ ?_ ?_
          · exact (Sub.wE rfl (by rw [show ((k - 1 : Nat) : Int) = (k : Int) - 1 from by omega]) (Sub.nil _))
          · exact (Sub.cons rfl (Sub.cons rfl (Sub.nil _)))
          · (try dsimp only)
            first | done | exact ⟨by omega, fun j h4 h5 => by by_cases e : j = k - 1; (subst e; assumption); exact hk3 j (by omega) h5, HN⟩
          · (try dsimp only); omega
      · (try simp only [aI] at h2)
        try (exfalso; first | contradiction | omega)
        all_goals
          refine fH (aY (aY (bV (aj (ay (ah (aO rfl (aV rfl (aA (aj (aJ (aH (.inl rfl) results199 rfl ?_))))))))))))
          exact ⟨by rw [back_eq hk1 hi hk3 (by first | (left; omega) | (right; assumption))], H2⟩
  · (try simp only [aI] at h1)
    try (exfalso; first | contradiction | omega)
    all_goals
      refine bC (bC (bC (bC (bC (bC (bC (eY rfl rfl (aA (aj (nV (fH (aY (aY (bV (aj (ay (ah (aO rfl (aV rfl (aA (aj (aJ (aH (.inl rfl) results199 rfl ?_)))))))))))))))))))))))
      exact ⟨by rw [back_eq hk1 hi hk3 (by first | (left; omega) | (right; assumption))], HL⟩
theorem oC (hT : wL w0) : CZ prog w0 F (.func (.func 137) #[] #[]) bU :=
  ⟨rfl, fun G W HW r => ⟨137, [], [], _, _, rfl, func137, rfl, rfl, Hr HW hT⟩⟩
theorem KD {v : Value} (h : v.oneCell' = true) : v.cells = #[v] := by cases v <;> simp_all [Value.cells, Value.oneCell']
theorem MF {b : Nat} {r : Int} (H : aB w0 w (G • dh b (.cells #[fv] 143 (0, 0)) • F)) (hf : CZ prog w0 F fv g) :
  eG prog 230 #[.int .i32 r, .pointer (some ⟨b, 0, none⟩)] w fun v w' => v = .bool (!g r) ∧ aB w0 w' (G • dh b (.cells #[fv] 143 (0, 0)) • F) := by
 refine fP func230 ntmps230 ?_
 dsimp only [aX, Nat.reduceAdd]
 refine ay (ah (aV rfl (aA (aj (ay (ah (dP underlying143 rfl H.swap.get.2 rfl (aO rfl (jo (qI rfl rfl ((hf.2 (G • dh b (.cells #[fv] 143 (0, 0))) _ H.deep _))) ?_)))))))))
 rintro _ w1 ⟨rfl, H1⟩
 refine aW (kC rfl) (aV rfl (aA (aj (aJ (aH (.inl rfl) results230 rfl ?_)))))
 exact ⟨rfl, H1.flat⟩
theorem Jv (H : aB w0 w F) (h1 : fv.oneCell' = true) : eG prog 198 #[fv] w fun v w' => ∃ b, v = .func (.func 230) #[] #[.pointer (some ⟨b, 0, none⟩)] ∧ aB w0 w' (dh b (.cells #[fv] 143 (0, 0)) • F) := by
 refine fP func198 ntmps198 ?_
 dsimp only [aX, Nat.reduceAdd]
 refine ay (ah (jo (Jk H rfl) ?_))
 rintro _ w1 ⟨b1, rfl, H1⟩
 refine aV rfl (aA (aj (ay (ah (aW (rJ rfl rfl) (aV rfl (aA (aj (aJ (aH (.inl rfl) results198 rfl ?_))))))))))
 exact ⟨b1, rfl, by rw [KD h1] at H1; exact H1⟩
theorem Dk {b : Nat} (hf : CZ prog w0 F fv g) : CZ prog w0 (dh b (.cells #[fv] 143 (0, 0)) • F) (.func (.func 230) #[] #[.pointer (some ⟨b, 0, none⟩)]) (fun r => !g r) :=
  ⟨rfl, fun G W HW r => ⟨230, [], [.pointer (some ⟨b, 0, none⟩)], _, _, rfl, func230, rfl, rfl, MF HW hf⟩⟩
def FD (l : List Int) (x : Int) : Nat := wQ bU l (wQ (fun r => !bU r) l (ni l.length x))
def Ae (l : List Int) (x : Int) : Nat := yL bU l (yL (fun r => !bU r) l (ni l.length x))
theorem D8 {x : Int} (H : aB w0 w F) (hT : wL w0) (hr : iD w0 F .i32 v l) :
  eG prog 129 #[v, .int .i64 x] w fun v' w' => v' = .int .i64 (FD l x) ∧ aB w0 w' F := by
 obtain ⟨a, c, hv, hac, OV, _⟩ := (hr w H).open
 subst hv
 have hw := Ac l.length x
 have ho := OT (fun r => !bU r) l hw
 refine fP func129 ntmps129 ?_
 dsimp only [aX, Nat.reduceAdd]
 refine ay (ah (aV rfl (aA (aj (ay (ah (aO rfl (aO rfl (aO rfl (aO rfl (dn rfl func191 (Ad) ?_)))))))))))
 rintro _ _ ⟨rfl, rfl⟩
 refine dn rfl func198 (Jv H rfl) ?_
 rintro _ w2 ⟨bn, rfl, H2⟩
 refine dn rfl func197 ((FB (G := emp) H2.zi (Dk (oC hT)) hr.under.under hw)) ?_
 rintro _ w3 ⟨rfl, H3⟩
 refine dn rfl func197 ((FB (G := emp • dh bn _) H3.deep (oC hT) hr.under ho.2)) ?_
 rintro _ w4 ⟨rfl, H4⟩
 refine aV rfl (aA (aj (aJ (aH (.inl rfl) results129 rfl ?_))))
 exact ⟨rfl, H4.right⟩
theorem Af {x : Int} (H : aB w0 w F) (hT : wL w0) (hr : iD w0 F .i32 v l) :
  eG prog 130 #[v, .int .i64 x] w fun v' w' => v' = .int .i64 (Ae l x) ∧ aB w0 w' F := by
 obtain ⟨a, c, hv, hac, OV, _⟩ := (hr w H).open
 subst hv
 have hw := Ac l.length x
 have ho := OU (fun r => !bU r) l (ni l.length x)
 refine fP func130 ntmps130 ?_
 dsimp only [aX, Nat.reduceAdd]
 refine ay (ah (aV rfl (aA (aj (ay (ah (aO rfl (aO rfl (aO rfl (aO rfl (dn rfl func191 (Ad) ?_)))))))))))
 rintro _ _ ⟨rfl, rfl⟩
 refine dn rfl func198 (Jv H rfl) ?_
 rintro _ w2 ⟨bn, rfl, H2⟩
 refine dn rfl func199 ((FC (G := emp) H2.zi (Dk (oC hT)) hr.under.under hw)) ?_
 rintro _ w3 ⟨rfl, H3⟩
 refine dn rfl func199 ((FC (G := emp • dh bn _) H3.deep (oC hT) hr.under (by omega))) ?_
 rintro _ w4 ⟨rfl, H4⟩
 refine aV rfl (aA (aj (aJ (aH (.inl rfl) results130 rfl ?_))))
 exact ⟨rfl, H4.right⟩
def Jw (r : Int) : Bool := decide (tC r ≠ 0) || gq r
def YZ (l : List Int) (x : Int) : Nat := if ni l.length x < l.length then wQ (fun r => !Jw r) l (ni l.length x + 1) else l.length
def Y0 (l : List Int) (x : Int) : Nat := yL (fun r => !Jw r) l (ni l.length x) - 1
end
end Go.Proofs.YtgndbccogcofjaaGreatDoor
end
section
namespace Go.Proofs.YtgndbccogcofjaaGreatDoor
open Go.RowKit
end Go.Proofs.YtgndbccogcofjaaGreatDoor
end
section
namespace Go.Proofs.YtgndbccogcofjaaGreatDoor
open Go.RowKit
open _root_.Go.Proofs.Tryz
theorem wR : (prog.info? 21).map (fun i => (i.zero, i.size, i.bytes)) = some (some (.int .i32 0), 1, 4) := by kernel_rfl
theorem kN {w0 w : World} {F : HP} {v : Value} {l : List Int} (H : aB w0 w F) (hr : iD w0 F .i32 v l) (hb : l.length * 4 ≤ 140737488355328) :
    eG prog 178 #[v] w fun v' w' => aB w0 w' (iE 21 .i32 v' l • F) := by
  obtain ⟨a, c, rfl, h1, h2, h3⟩ := (hr w H).open
  refine fP func178 ntmps178 ?_
  dsimp only [aX, Nat.reduceAdd]
  refine ay (ah (aV rfl (aA (aj (ay (ay (ah (aO rfl (aW (sV underlying22 rfl rfl) (aA (aj (aQ rfl (fun h1 => ?_) (fun h1 => ?_)))))))))))))
  · (try simp only [aI] at h1)
    try (exfalso; first | contradiction | omega)
    all_goals
      refine ay (ah (aV rfl (aA (aj (aJ (aK (aH (.inl rfl) results178 rfl ?_)))))))
      obtain rfl : a = none := by simpa using h1
      obtain rfl : l = [] := by
        cases l with
        | nil => rfl
        | cons x l => obtain ⟨b, o, e, _⟩ := h3 (by simp); cases e
      exact H.iP none
  · (try simp only [aI] at h1)
    try (exfalso; first | contradiction | omega)
    all_goals
      refine aS (aj (ay (ah (jo (kM (vs := []) H underlying22 sizeOf21 zeroValue21 rfl rfl rfl (by decide) (by simp)) ?_))))
      rintro _ w1 H1
      refine aO rfl (jo (uU (l := []) H1 (hr.under _ H1) underlying22 wR rfl rfl (by simp; omega) (by simpa using hb)) ?_)
      rintro _ w2 H2
      refine aV rfl (aA (aj (aJ (aH (.inl rfl) results178 rfl ?_))))
      exact H2
theorem MG {w0 w : World} {F : HP} {n : Int} (H : aB w0 w F) (h0 : 0 ≤ n) (hb : n ≤ 70368744177664) :
  eG prog 196 #[.slice none 0 0, .int .i64 n] w fun v' w' => aB w0 w' (iE 21 .i32 v' [] • F) := by
 refine fP func196 ntmps196 ?_
 dsimp only [aX, Nat.reduceAdd]
 refine ay (ah (aV rfl (aA (aj (ay (ay (ah (aO rfl (aW (eU rfl rfl) (aA (aj (aQ rfl (fun h => by exfalso; (try simp only [aI] at h); first | contradiction | omega | (simp at h <;> omega)) (fun h1 => ?_)))))))))))))
 (try simp only [aI] at h1)
 refine aS (aj (ay (ay (ah (aO rfl (aO rfl (aW (Qa underlying22 rfl) (aO rfl (aW (fB underlying22 rfl) (aW (gU rfl rfl (by omega)) (aW (gU rfl rfl (by omega)) (aV rfl (aA (aj (ay (ah (aO rfl (aW (dB rfl rfl) (aA (aj (aQ rfl (fun h2 => ?_) (fun h2 => ?_))))))))))))))))))))))
 ·(try simp only [aI] at h2)
  try (exfalso; first | contradiction | omega)
  all_goals
   refine ah (aO rfl (aO rfl (aW (Qa underlying22 rfl) (aW (mZ underlying22 sizeOf21 rfl rfl rfl (by omega)) (aO rfl (jo (zN H underlying22 underlying3 wR rfl rfl (by omega) (by omega) (by omega)) ?_))))))
   rintro _ w1 ⟨g, c, cur, rfl, hc1, hc2, hc3, H1⟩
   refine aO rfl (aW (fB underlying22 rfl) (aW (mZ underlying22 sizeOf21 rfl rfl rfl (by omega)) (aV rfl (aA (aj (ay (ah (aO rfl (aV rfl (aA (aj (aJ (aH (.inl rfl) results196 rfl ?_)))))))))))))
   exact H1.rO (o := 0) (by simp) (CX 1 0 g 0 _ c) (by simp) hc2 (by simpa using hc3) (by simp)
 ·(try simp only [aI] at h2)
  try (exfalso; first | contradiction | omega)
  all_goals
   refine aS (aj (ay (ah (aO rfl (aV rfl (aA (aj (aJ (aH (.inl rfl) results196 rfl ?_)))))))))
   exact H.iP none
theorem Hz {w0 w : World} {F : HP} {v : Value} {vs : List Value} {ls : List (List Int)} (H : aB w0 w F) (hv : Kt w0 F 1 v ls.length vs) (hls : ∀ k, k < ls.length → iD w0 F .i32 (vs.getD k undef) (ls.getD k [])) (hb : ls.flatten.length * 4 ≤ 140737488355328) :
  eG prog 128 #[v] w fun v' w' => aB w0 w' (iE 21 .i32 v' ls.flatten • F) := by
 obtain ⟨_, a, c, rfl, hc1, hc2, _⟩ := hv w H
 refine fP func128 ntmps128 ?_
 dsimp only [aX, Nat.reduceAdd]
 refine ay (ah (aV rfl (aA (aj (ay (ah (aV rfl (aA (aj (ay (ay (ah (aO rfl (aW (fB underlying54 rfl) (aO rfl (aA (aj (bg ?_))))))))))))))))))
 refine ig [(0, _), (9, _), (10, _)] (fun (k : Nat) => [(3, .int .i64 ((ls.take k).flatten.length : Int)), (11, .int .i64 (k : Int))]) (fun (k : Nat) W => k ≤ ls.length ∧ aB w0 W F) (fun (k : Nat) => ls.length - k) (0) (Sub.cons rfl (Sub.cons rfl (Sub.cons rfl (Sub.nil _)))) (Sub.wE rfl (by simp) (Sub.wE rfl (rfl) (Sub.nil _))) ⟨by omega, H⟩ ?_
 rintro k w1 ⟨hk, HL⟩
 dsimp only [List.cons_append, List.nil_append]
 refine ay (ah (aW (eU rfl rfl) (aA (aj (ay (aQ rfl (fun h1 => ?_) (fun h1 => ?_)))))))
 ·(try simp only [aI] at h1)
  try (exfalso; first | contradiction | omega)
  all_goals
   refine aS (aj (ay (bg (ay ?_))))
   have hk1 : k < ls.length := by omega
   obtain ⟨b, o, rfl, hc⟩ := hv.cell HL (j := k) (by omega)
   obtain ⟨ak, ck, ek, hk2, hk3, _⟩ := (hls k hk1 _ HL).open
   rw [ek] at hc
   have hfl := DT ls (k + 1)
   rw [uz ls hk1, List.length_append] at hfl
   refine ah (aW (iK underlying54 sizeOf22 rfl rfl (by omega)) ?_)
   refine aW (nU (iC underlying22 rfl) rfl (by rw [show ((k : Int).toNat * 1) = k from by omega]; exact hc)) ?_
   refine aV rfl (aA (aj (ay (ah (aO rfl (aO rfl (aW (fB underlying22 rfl) (aW (fQ rfl rfl (by omega)) (aV rfl (aA (aj (ay (ah (aO rfl (aW (eU rfl rfl) (aA (aj (aQ rfl (fun h => by exfalso; (try simp only [aI] at h); first | contradiction | omega | (simp at h <;> omega)) (fun h2 => ?_)))))))))))))))))))
   (try simp only [aI] at h2)
   refine aS (aP (aj (ah (aW (fQ rfl rfl (by omega)) (aO rfl (aA ?_))))))
   refine fA (k + 1) ?_ ?_ ?_ ?_
   ·exact (Sub.wE rfl (by rw [uz ls hk1, List.length_append, Int.natCast_add]) (Sub.cons rfl (Sub.nil _)))
   ·exact (Sub.cons rfl (Sub.cons rfl (Sub.cons rfl (Sub.nil _))))
   ·(try dsimp only)
    first | done | exact ⟨by omega, HL⟩
   ·(try dsimp only); omega
 ·(try simp only [aI] at h1)
  try (exfalso; first | contradiction | omega)
  all_goals
   refine fH (aY (aY (bV (aj (ay (ah (aO rfl (dn rfl func196 (MG HL (by omega) (by have := DT ls k; omega)) ?_))))))))
   rintro vg w2 H2
   refine aV rfl (aA (aj (ay (ay (ah (aO rfl (aW (fB underlying54 rfl) (aO rfl (aA (aj (bg ?_)))))))))))
   refine ig [(25, _), (26, _)] (fun (⟨k, u⟩ : Nat × Value) => [(6, u), (27, .int .i64 (k : Int))]) (fun (⟨k, u⟩ : Nat × Value) W => k ≤ ls.length ∧ aB w0 W (iE 21 .i32 u (ls.take k).flatten • F)) (fun (⟨k, u⟩ : Nat × Value) => ls.length - k) ((0, vg)) (Sub.cons rfl (Sub.cons rfl (Sub.nil _))) (Sub.cons rfl (Sub.cons rfl (Sub.nil _))) ⟨by omega, H2⟩ ?_
   rintro ⟨k, u⟩ w3 ⟨hk, HM⟩
   dsimp only [List.cons_append, List.nil_append]
   refine ay (ah (aW (eU rfl rfl) (aA (aj (ay (aQ rfl (fun h3 => ?_) (fun h3 => ?_)))))))
   ·(try simp only [aI] at h3)
    try (exfalso; first | contradiction | omega)
    all_goals
     refine aS (aj (ay (bg (ay ?_))))
     have hk1 : k < ls.length := by omega
     obtain ⟨b, o, rfl, hc⟩ := hv.cell HM.right (j := k) (by omega)
     have hrk := hls k hk1
     have hfl := DT ls (k + 1)
     rw [uz ls hk1, List.length_append] at hfl
     refine ah (aW (iK underlying54 sizeOf22 rfl rfl (by omega)) ?_)
     refine aW (nU (iC underlying22 rfl) rfl (by rw [show ((k : Int).toNat * 1) = k from by omega]; exact hc)) ?_
     refine aV rfl (aA (aj (ah (aO rfl (aO rfl (jo (uU HM (hrk _ HM.right) underlying22 wR rfl rfl (by omega) (by omega)) ?_))))))
     rintro va w4 H4
     refine aV rfl (aA (aP (aj (ah (aW (fQ rfl rfl (by omega)) (aO rfl (aA ?_)))))))
     refine fA ((k + 1, va)) ?_ ?_ ?_ ?_
     ·exact (Sub.cons rfl (Sub.cons rfl (Sub.nil _)))
     ·exact (Sub.cons rfl (Sub.cons rfl (Sub.nil _)))
     ·(try dsimp only)
      first | done | exact ⟨by omega, by rw [uz ls hk1]; exact H4⟩
     ·(try dsimp only); omega
   ·(try simp only [aI] at h3)
    try (exfalso; first | contradiction | omega)
    all_goals
     refine fH (aY (aY (bV (aj (ay (ah (aO rfl (aV rfl (aA (aj (aJ (aH (.inl rfl) results128 rfl ?_))))))))))))
     rw [List.take_of_length_le (by omega)] at HM; exact HM
theorem tH {w0 w : World} {F : HP} {b : Nat} {T : TypeId} {u1 u2 : Value} {l1 l2 : List Int} (H : aB w0 w (dh b (.cells #[u1, u2] T (0, 0)) • F)) (h1 : iD w0 (dh b (.cells #[u1, u2] T (0, 0)) • F) .i32 u1 l1) (h2 : iD w0 (dh b (.cells #[u1, u2] T (0, 0)) • F) .i32 u2 l2)
    (hb : (l1.length + l2.length) * 4 ≤ 140737488355328) :
    eG prog 128 #[.slice (some ⟨b, 0, none⟩) 2 2] w fun v' w' => aB w0 w' (iE 21 .i32 v' (l1 ++ l2) • dh b (.cells #[u1, u2] T (0, 0)) • F) := by
  have := Hz (ls := [l1, l2]) (vs := [u1, u2]) (v := .slice (some ⟨b, 0, none⟩) 2 2) H (fun W HW => ⟨rfl, _, 2, rfl, by simp, by decide, fun _ => ⟨b, 0, rfl, fun j hj => ?_⟩⟩) (fun k hk => ?_) (by simpa using hb)
  · simpa using this
  · refine fC HW.get.2 ?_
    simp at hj
    match j, hj with
    | 0, _ => rfl
    | 1, _ => rfl
  · simp at hk
    match k, hk with
    | 0, _ => exact h1
    | 1, _ => exact h2
end Go.Proofs.YtgndbccogcofjaaGreatDoor
end
section
namespace Go.Proofs.YtgndbccogcofjaaGreatDoor
open Go.RowKit
open _root_.Go.Proofs.Tryz
theorem FH {s i j : Nat} {v : Value} (h : v.oneCell' = true) : (kZ s i j v).oneCell' = true := by cases v <;> simp_all [kZ, Value.oneCell']
def dL (v : Value) (f t pt mk : Int) : Array Value := #[.bool true, v, .int .i64 f, .int .i64 t, .int .i64 pt, .int .i64 mk]
theorem OW {a b : Value} (h : a.oneCell' = true) (k : b.oneCell' = true) : ∀ u ∈ [a, b], u.oneCell' = true := by
  intro u hu; simp at hu; rcases hu with rfl | rfl
  · exact h
  · exact k
section
variable {v u : Value} {f t pt mk x : Int}
theorem gZ : (dL v f t pt mk).size = 6 := rfl
theorem KE : (dL v f t pt mk).setIfInBounds 1 u = dL u f t pt mk := rfl
theorem rQ : (dL v f t pt mk).setIfInBounds 2 (.int .i64 x) = dL v x t pt mk := rfl
theorem vO : (dL v f t pt mk).setIfInBounds 3 (.int .i64 x) = dL v f x pt mk := rfl
theorem qx : (dL v f t pt mk).setIfInBounds 4 (.int .i64 x) = dL v f t x mk := rfl
theorem jQ : (dL v f t pt mk).setIfInBounds 5 (.int .i64 x) = dL v f t pt x := rfl
end
def dJ (p : Nat) (L : List Int) (pt mk : Int) : HP := qo fun (x : Value × List Int × Nat × Nat) =>
  fact (x.2.2.1 ≤ x.2.2.2 ∧ x.2.2.2 ≤ x.2.1.length ∧ L = x.2.1.take x.2.2.1 ++ x.2.1.drop x.2.2.2 ∧ L.length ≤ 1024 ∧ x.2.1.length ≤ 4096 ∧ (0 ≤ pt ∧ pt ≤ L.length) ∧ (-1 ≤ mk ∧ mk ≤ L.length)) •
    dh p (.cells (dL x.1 x.2.2.1 x.2.2.2 pt mk) 184 (0, 0)) • iE 21 .i32 x.1 x.2.1
section
variable {w0 w : World} {F : HP} {p : Nat} {L : List Int} {pt mk : Int}
theorem aB.buf (H : aB w0 w (dJ p L pt mk • F)) : ∃ (a : Option Addr) (c : Nat) (xs : List Int) (f t : Nat), f ≤ t ∧ t ≤ xs.length ∧ L = xs.take f ++ xs.drop t ∧ L.length ≤ 1024 ∧ xs.length ≤ 4096 ∧ (0 ≤ pt ∧ pt ≤ L.length) ∧ (-1 ≤ mk ∧ mk ≤ L.length) ∧ xs.length ≤ c ∧ (c : Int) ≤ 9223372036854775807 ∧ L.length + t = xs.length + f ∧
    aB w0 w (dh p (.cells (dL (.slice a xs.length c) f t pt mk) 184 (0, 0)) • iE 21 .i32 (.slice a xs.length c) xs • F) := by
  obtain ⟨⟨v, xs, f, t⟩, H⟩ := H.kH
  obtain ⟨⟨h1, h2, h3, h4, h5, h6, h7⟩, H⟩ := H.flat.fact
  have H := H.flat
  obtain ⟨a, c, hv, hc1, hc2, _⟩ := (H.swap.aT).form
  dsimp only at *
  subst hv
  refine ⟨a, c, xs, f, t, h1, h2, h3, h4, h5, h6, h7, hc1, hc2, ?_, H⟩
  rw [h3]; simp; omega
theorem aB.jg {v : Value} {xs : List Int} {f t : Nat} (h1 : f ≤ t) (h2 : t ≤ xs.length) (h3 : L = xs.take f ++ xs.drop t) (h4 : L.length ≤ 1024) (h5 : xs.length ≤ 4096) (h6 : 0 ≤ pt ∧ pt ≤ L.length) (h7 : -1 ≤ mk ∧ mk ≤ L.length)
    (H : aB w0 w (dh p (.cells (dL v f t pt mk) 184 (0, 0)) • iE 21 .i32 v xs • F)) : aB w0 w (dJ p L pt mk • F) :=
  aB.gy (v, xs, f, t) (aB.deep (aB.je ⟨h1, h2, h3, h4, h5, h6, h7⟩ (aB.deep H)))
theorem lu (t : TypeId) {cs : Array Value} {fr : Nat × Nat} {m : Bool} (hb : w.heap[p]? = some (.cells cs t fr)) (h0 : cs[0]? = some (.bool m)) :
  eG prog 185 #[.pointer (some ⟨p, 0, none⟩)] w fun v w' => v = .bool (!m) ∧ w = w' := by
 refine fP func185 ntmps185 ?_
 dsimp only [aX, Nat.reduceAdd]
 refine ay (ah (aV rfl (aA (aj (ay (ah (aO rfl (aW (fO underlying27 rfl rfl) (fV rfl (fun h => by exfalso; (try simp only [aI] at h); simp at h) (fun h1 => ?_))))))))))
 (try simp only [aI] at h1)
 refine bf (aO rfl (bf (bK rfl (bf (aZ 0 underlying184 rfl sizeOf4 rfl (bf (dP underlying4 rfl hb h0 (bf (aW (kC rfl) (eY rfl rfl (aV rfl (aA (aj (aJ (aH (.inl rfl) results185 rfl ?_)))))))))))))))
 exact ⟨rfl, rfl⟩
theorem jF (H : aB w0 w (dJ p L pt mk • F)) : eG prog 186 #[.pointer (some ⟨p, 0, none⟩)] w fun v w' => v = .int .i64 L.length ∧ sU w w' := by
 obtain ⟨a, c, xs, f, t, h1, h2, h3, h4, h5, h6, h7, hc1, hc2, hl, H1⟩ := H.buf
 have hb := H1.get.2
 refine fP func186 ntmps186 ?_
 dsimp only [aX, Nat.reduceAdd]
 refine ay (ah (aV rfl (aA (aj (ay (ay (ah (aO rfl (dn rfl func185 (lu _ hb rfl) ?_)))))))))
 rintro _ _ ⟨rfl, rfl⟩
 refine aA (aj (nV (aS (aj (ay ?_)))))
 refine jE (n := 16) [0, 1, 2, 3, 4, 5, 6, 7, 8, 9, 10, 11, 12, 13, 14, 15] (fun W => W.heap = w.heap) (by kernel_rfl) (by kernel_rfl) rfl ?_
 have hS0 : (fun W => W.heap = w.heap) (w.drew) := rfl
 have Y1 := H1.drew
 refine iq 0 rfl hS0 rfl (jv 1 rfl hS0 rfl (fU 2 rfl hS0 1 underlying184 rfl sizeOf22 rfl ?_))
 refine iV 3 rfl hS0 (fun W hW => jr underlying22 rfl (by rw [hW]; exact hb) rfl) ?_
 refine iU 4 rfl hS0 (fun _ => fB underlying22 rfl) (iq 5 rfl hS0 rfl (jv 6 rfl hS0 rfl (fU 7 rfl hS0 3 underlying184 rfl sizeOf3 rfl ?_)))
 refine iV 8 rfl hS0 (fun W hW => jr underlying3 rfl (by rw [hW]; exact hb) rfl) ?_
 refine iq 9 rfl hS0 rfl (jv 10 rfl hS0 rfl (fU 11 rfl hS0 2 underlying184 rfl sizeOf3 rfl ?_))
 refine iV 12 rfl hS0 (fun W hW => jr underlying3 rfl (by rw [hW]; exact hb) rfl) ?_
 refine iU 13 rfl hS0 (fun _ => gU rfl rfl (by omega)) (iU 14 rfl hS0 (fun _ => gU rfl rfl (by omega)) (iU 15 rfl hS0 (fun _ => fZ rfl) (oV (aj (aJ (aH (.inl rfl) results186 rfl ?_))))))
 exact ⟨by congr 1; omega, sU.refl _ |>.drew⟩
theorem ny (H : aB w0 w (dJ p L pt mk • F)) : eG prog 113 #[.pointer (some ⟨p, 0, none⟩)] w fun v w' => v = .int .i64 pt ∧ w = w' := by
 obtain ⟨a, c, xs, f, t, h1, h2, h3, h4, h5, h6, h7, hc1, hc2, hl, H1⟩ := H.buf
 have hb := H1.get.2
 refine fP func113 ntmps113 ?_
 dsimp only [aX, Nat.reduceAdd]
 refine ay (ah (aV rfl (aA (aj (ay (ay (ah (aO rfl (dn rfl func185 (lu _ hb rfl) ?_)))))))))
 rintro _ _ ⟨rfl, rfl⟩
 refine aA (aj (nV (aS (aj (ay (ah (aO rfl (bK rfl (aZ 4 underlying184 rfl sizeOf3 rfl (dP underlying3 rfl hb rfl (aV rfl (aA (aj (aJ (aH (.inl rfl) results113 rfl ?_)))))))))))))))
 exact ⟨rfl, rfl⟩
theorem D9 (H : aB w0 w (dJ p L pt mk • F)) : eG prog 114 #[.pointer (some ⟨p, 0, none⟩)] w fun v w' => v = .int .i64 mk ∧ w = w' := by
 obtain ⟨a, c, xs, f, t, h1, h2, h3, h4, h5, h6, h7, hc1, hc2, hl, H1⟩ := H.buf
 have hb := H1.get.2
 refine fP func114 ntmps114 ?_
 dsimp only [aX, Nat.reduceAdd]
 refine ay (ah (aV rfl (aA (aj (ay (ay (ah (aO rfl (dn rfl func185 (lu _ hb rfl) ?_)))))))))
 rintro _ _ ⟨rfl, rfl⟩
 refine aA (aj (nV (aS (aj (ay (ah (aO rfl (bK rfl (aZ 5 underlying184 rfl sizeOf3 rfl (dP underlying3 rfl hb rfl (aV rfl (aA (aj (aJ (aH (.inl rfl) results114 rfl ?_)))))))))))))))
 exact ⟨rfl, rfl⟩
theorem oD (H : aB w0 w (dJ p L pt mk • F)) : eG prog 112 #[.pointer (some ⟨p, 0, none⟩)] w fun v w' => aB w0 w' (iE 21 .i32 v L • dJ p L pt mk • F) := by
 obtain ⟨a, c, xs, f, t, h1, h2, h3, h4, h5, h6, h7, hc1, hc2, hl, H1⟩ := H.buf
 have hb := H1.get.2
 refine fP func112 ntmps112 ?_
 dsimp only [aX, Nat.reduceAdd]
 refine ay (ah (aV rfl (aA (aj (ay (ay (ah (aO rfl (dn rfl func185 (lu _ hb rfl) ?_)))))))))
 rintro _ _ ⟨rfl, rfl⟩
 refine aA (aj (nV (aS (aj (ay ?_)))))
 refine jE (n := 21) [0, 1, 2, 3, 4, 5, 6, 7, 8, 9, 10, 11, 12, 13, 14, 15, 16, 17, 18, 19, 20] (fun W => W.heap[p]? = some (.cells (dL (.slice a xs.length c) f t pt mk) 184 (0, 0))) (by kernel_rfl) (by kernel_rfl) rfl ?_
 have hS0 : (fun W => W.heap[p]? = some (.cells (dL (.slice a xs.length c) f t pt mk) 184 (0, 0))) (w.drew) := hb
 have Y1 := H1.drew
 refine iq 0 rfl hS0 rfl (jv 1 rfl hS0 rfl (fU 2 rfl hS0 1 underlying184 rfl sizeOf22 rfl (iV 3 rfl hS0 (fun W hW => jr underlying22 rfl hW rfl) (iq 4 rfl hS0 rfl (jv 5 rfl hS0 rfl (fU 6 rfl hS0 2 underlying184 rfl sizeOf3 rfl (iV 7 rfl hS0 (fun W hW => jr underlying3 rfl hW rfl) (iU 8 rfl hS0 (fun _ => mZ underlying22 sizeOf21 rfl rfl rfl (by omega)) (iq 9 rfl hS0 rfl (jv 10 rfl hS0 rfl (fU 11 rfl hS0 1 underlying184 rfl sizeOf22 rfl (iV 12 rfl hS0 (fun W hW => jr underlying22 rfl hW rfl) (iq 13 rfl hS0 rfl (jv 14 rfl hS0 rfl (fU 15 rfl hS0 3 underlying184 rfl sizeOf3 rfl (iV 16 rfl hS0 (fun W hW => jr underlying3 rfl hW rfl) (iU 17 rfl hS0 (fun _ => mZ underlying22 sizeOf21 rfl rfl rfl (by omega)) (jB 18 rfl (Jl (vs := [kZ 1 0 f (.slice a xs.length c), kZ 1 t xs.length (.slice a xs.length c)]) Y1 underlying54 sizeOf22 zeroValue22 rfl rfl rfl (by decide) (OW (FH rfl) (FH rfl))) ?_))))))))))))))))))
 rintro _ w2 ⟨b2, rfl, H2⟩
 have hS2 : (fun W => W.heap[p]? = some (.cells (dL (.slice a xs.length c) f t pt mk) 184 (0, 0))) w2 := H2.swap.get.2
 refine wH hS2 ?_
 refine jB 19 rfl (vK rfl func128 (tH (l1 := xs.take f) (l2 := xs.drop t) H2 (fun W HW => jV.upto HW.BL.aT (by omega)) (fun W HW => jV.from HW.BL.aT (by omega)) (by simp; omega))) ?_
 rintro u w3 H3
 have hS3 : (fun W => W.heap[p]? = some (.cells (dL (.slice a xs.length c) f t pt mk) 184 (0, 0))) w3 := H3.BL.get.2
 refine wH hS3 ?_
 refine iU 20 rfl hS3 (fun _ => fZ rfl) (oV (aj (aJ (aH (.inl rfl) results112 rfl ?_))))
 rw [← h3] at H3
 exact (aB.jg h1 h2 h3 h4 h5 h6 h7 H3.swap.right.d3).swap
theorem FI {v : Value} {l : List Int} (H : aB w0 w F) (hr : iD w0 F .i32 v l) (hl : l.length ≤ 1024) : eG prog 184 #[v] w fun v' w' => ∃ p, v' = .tuple #[.pointer (some ⟨p, 0, none⟩), .int .i64 0] ∧ aB w0 w' (dJ p l l.length (-1) • F) := by
 obtain ⟨a, c, rfl, _, _, _⟩ := (hr w H).open
 refine fP func184 ntmps184 ?_
 dsimp only [aX, Nat.reduceAdd]
 refine ay (ah (aV rfl (aV rfl (aA (aj (ay (ay (ah (aO rfl (aW (fB underlying22 rfl) (aW (dB rfl rfl) (aA (aj (aQ rfl (fun h => by exfalso; (try simp only [aI] at h); first | contradiction | omega | (simp at h <;> omega)) (fun h1 => ?_)))))))))))))))
 (try simp only [aI] at h1)
 refine aS (aj (ay (ah (aO rfl (dn rfl func178 (kN H hr (by omega)) ?_)))))
 rintro u w1 H1
 obtain ⟨au, cu, hu, _⟩ := (H1.aT).form
 subst hu
 refine aO rfl (aW (fB underlying22 rfl) (aW (dS (pl := #[(0, 1), (1, 1), (2, 1), (3, 1), (4, 1), (5, 1)]) (dL (.slice au l.length cu) 0 0 l.length (-1)) underlying184 zeroValue184 (fun w => by kernel_rfl) rfl (by kernel_rfl)) (jo (Jk H1 rfl) ?_)))
 rintro _ w2 ⟨b2, rfl, H2⟩
 refine aV rfl (aA (aj (ay ?_)))
 have HB : aB w0 w2 (dh b2 (.cells (dL (.slice au l.length cu) 0 0 l.length (-1)) 184 (0, 0)) • iE 21 .i32 (.slice au l.length cu) l • F) := H2
 refine ah (aO rfl (aO rfl (aO rfl (aW (fB underlying22 rfl) (aO rfl (aW (fB underlying22 rfl) (bK rfl (aZ 2 underlying184 rfl sizeOf3 rfl (aG (dA HB sizeOf3 rfl rfl rfl (by rw [gZ]; decide)) ?_)))))))))
 rintro _ w3 HB1
 rw [rQ] at HB1
 refine bK rfl (aZ 3 underlying184 rfl sizeOf3 rfl (aG (dA HB1 sizeOf3 rfl rfl rfl (by rw [gZ]; decide)) ?_))
 rintro _ w4 HB2
 rw [vO] at HB2
 refine aA (aj (ay (ah (aO rfl (aV rfl (aV rfl (aA (aj (aJ (kF (.inl rfl) results184 rfl rfl ?_))))))))))
 exact ⟨_, rfl, aB.jg (f := l.length) (t := l.length) (Nat.le_refl _) (Nat.le_refl _) (by simp) hl (by omega) (by omega) (by omega) HB2⟩
end
end Go.Proofs.YtgndbccogcofjaaGreatDoor
end
section
namespace Go.Proofs.YtgndbccogcofjaaGreatDoor
open Go.RowKit
open _root_.Go.Proofs.Tryz
def dR (L : List Int) (i r : Nat) : List Int := dH (dH (List.replicate (L.length + r + 16) 0) 0 (L.take i)) (i + r + 16) (L.drop i)
theorem HY {L : List Int} {i r : Nat} (h : i ≤ L.length) : (dR L i r).length = L.length + r + 16 := by
  unfold dR
  rw [bI, bI] <;> simp [bI] <;> first | omega | (rw [bI] <;> simp <;> omega)
theorem yM {l ys : List Int} {i : Nat} (h : i + ys.length ≤ l.length) : (dH l i ys).take (i + ys.length) = l.take i ++ ys := by
  unfold dH
  rw [List.take_append_of_le_length (by simp; omega), List.take_of_length_le (by simp; omega)]
theorem FK {l ys : List Int} {i j : Nat} (h : i + ys.length ≤ j) (h2 : j ≤ l.length) : (dH l i ys).drop j = l.drop j := by
  unfold dH
  rw [List.drop_append, List.drop_eq_nil_of_le (by simp; omega), List.nil_append, List.drop_drop]
  congr 1
  simp
  omega
theorem Ag {l ys : List Int} {i j : Nat} (h : j ≤ i) (h2 : i ≤ l.length) : (dH l i ys).take j = l.take j := by
  unfold dH
  rw [List.append_assoc, List.take_append_of_le_length (by simp; omega), List.take_take, Nat.min_eq_left h]
theorem Ah {l ys : List Int} {i : Nat} (h : i + ys.length = l.length) : (dH l i ys).drop i = ys := by
  unfold dH
  rw [List.append_assoc, List.drop_append, List.drop_eq_nil_of_le (by simp; omega), List.nil_append]
  simp [show i - min i l.length = 0 from by omega, show l.length ≤ i + ys.length from by omega]
theorem FM {L : List Int} {i r : Nat} (h : i ≤ L.length) : (dR L i r).take i = L.take i := by
  have h1 : (dH (List.replicate (L.length + r + 16) (0 : Int)) 0 (L.take i)).length = L.length + r + 16 := by rw [bI] <;> simp; omega
  unfold dR
  rw [Ag (by omega) (by rw [h1]; omega)]
  have := yM (l := List.replicate (L.length + r + 16) (0 : Int)) (ys := L.take i) (i := 0) (by simp; omega)
  rw [show 0 + (L.take i).length = i from by simp; omega] at this
  simpa using this
theorem FN {L : List Int} {i r : Nat} (h : i ≤ L.length) : (dR L i r).drop (i + r + 16) = L.drop i := by
  have h1 : (dH (List.replicate (L.length + r + 16) (0 : Int)) 0 (L.take i)).length = L.length + r + 16 := by rw [bI] <;> simp; omega
  exact Ah (by rw [h1]; simp; omega)
section
variable {w0 w : World} {F : HP} {p : Nat} {L : List Int} {pt mk : Int}
theorem Ea {i r : Nat} (H : aB w0 w (dJ p L pt mk • F)) (hi : i ≤ L.length) (hr : r ≤ 1024) :
  eG prog 229 #[.pointer (some ⟨p, 0, none⟩), .int .i64 i, .int .i64 r] w fun _ w' => ∃ v, aB w0 w' (dh p (.cells (dL v i (i + r + 16 : Nat) pt mk) 184 (0, 0)) • iE 21 .i32 v (dR L i r) • F) := by
 have hL4 : L.length ≤ 1024 := by obtain ⟨a, c, xs, f, t, h1, h2, h3, h4, h5, h6, h7, hc1, hc2, hl, H1⟩ := H.buf; exact h4
 have e1 : ((L.length : Int) + r + 16).toNat = L.length + r + 16 := by omega
 refine fP func229 ntmps229 ?_
 dsimp only [aX, Nat.reduceAdd]
 refine ay (ah (aO rfl (dn rfl func112 (oD H) ?_)))
 rintro u w1 H1
 obtain ⟨au, cu, hu, hcu, ZH, _⟩ := (H1.aT).form
 subst hu
 obtain ⟨a, c, xs, f, t, h1, h2, h3, h4, h5, h6, h7, hc1, hc2, hl, HB⟩ := H1.swap.buf
 refine aV rfl (aA (aj (ay (ah (aO rfl (aO rfl (aW (fB underlying22 rfl) (aO rfl (aW (fQ rfl rfl (by omega)) (aW (fQ rfl rfl (by omega)) (jo (Fa HB underlying22 wR rfl rfl (by omega) (by omega) (by omega)) ?_)))))))))))
 rintro v w2 H2
 rw [e1] at H2
 have hm : (List.replicate (L.length + r + 16) (0 : Int)).length = L.length + r + 16 := by simp
 obtain ⟨av, cv, hv, hcv, hcv2, _⟩ := (H2.aT).form
 rw [hm] at hv hcv
 subst hv
 refine bK rfl (aZ 1 underlying184 rfl sizeOf22 rfl (aG (dA H2.swap sizeOf22 rfl rfl rfl (by rw [gZ]; decide)) ?_))
 rintro _ w3 H3
 rw [KE] at H3
 refine aA (aj (ay (ah (aO rfl (aO rfl (bK rfl (aZ 2 underlying184 rfl sizeOf3 rfl (aG (dA H3 sizeOf3 rfl rfl rfl (by rw [gZ]; decide)) ?_))))))))
 rintro _ w4 H4
 rw [rQ] at H4
 refine aA (aj (ay (ah (aO rfl (aO rfl (bK rfl (aZ 1 underlying184 rfl sizeOf22 rfl (dP underlying22 rfl H4.get.2 rfl (aW (fB underlying22 rfl) (aO rfl (aW (fB underlying22 rfl) (aO rfl (aW (gU rfl rfl (by omega)) (aW (gU rfl rfl (by omega)) (bK rfl (aZ 3 underlying184 rfl sizeOf3 rfl (aG (dA H4 sizeOf3 rfl rfl rfl (by rw [gZ]; decide)) ?_)))))))))))))))))
 rintro _ w5 H5
 rw [vO, show (((L.length + r + 16 : Nat) : Int) - ((L.length : Int) - (i : Int))) = ((i + r + 16 : Nat) : Int) from by omega] at H5
 have hb3 := H5.get.2
 refine aA (aj (ay ?_))
 refine jE (n := 8) [0, 1, 2, 3, 4, 5, 6, 7] (fun W => W.heap[p]? = some (.cells (dL (.slice av (L.length + r + 16) cv) i (i + r + 16 : Nat) pt mk) 184 (0, 0))) (by kernel_rfl) (by kernel_rfl) rfl ?_
 have hS0 : (fun W => W.heap[p]? = some (.cells (dL (.slice av (L.length + r + 16) cv) i (i + r + 16 : Nat) pt mk) 184 (0, 0))) (w5.drew) := hb3
 have Y2 := H5.drew
 refine iq 0 rfl hS0 rfl (jv 1 rfl hS0 rfl (fU 2 rfl hS0 1 underlying184 rfl sizeOf22 rfl (iV 3 rfl hS0 (fun W hW => jr underlying22 rfl hW rfl) (iq 4 rfl hS0 rfl (iq 5 rfl hS0 rfl (iU 6 rfl hS0 (fun _ => mZ underlying22 sizeOf21 rfl rfl rfl (by omega)) (jB 7 rfl (tu (i := 0) (m := L.take i) Y2.swap (jV.upto Y2.r4.aT (by omega)) underlying22 (by kernel_rfl) (by rw [hm, Hl]; rfl) rfl (by simp; omega)) ?_)))))))
 rintro _ w6 ⟨rfl, H6⟩
 have hm2 : (dH (List.replicate (L.length + r + 16) (0 : Int)) 0 (L.take i)).length = L.length + r + 16 := by rw [bI] <;> simp; omega
 refine zK (by kernel_rfl) ?_
 refine oV (aj ?_)
 refine jE (n := 13) [0, 1, 2, 3, 4, 5, 6, 7, 8, 9, 10, 11, 12] (fun W => W.heap[p]? = some (.cells (dL (.slice av (L.length + r + 16) cv) i (i + r + 16 : Nat) pt mk) 184 (0, 0))) (by kernel_rfl) (by kernel_rfl) rfl ?_
 have hS0 : (fun W => W.heap[p]? = some (.cells (dL (.slice av (L.length + r + 16) cv) i (i + r + 16 : Nat) pt mk) 184 (0, 0))) (w6.drew) := H6.swap.get.2
 have VP := H6.drew
 refine iq 0 rfl hS0 rfl (jv 1 rfl hS0 rfl (fU 2 rfl hS0 1 underlying184 rfl sizeOf22 rfl (iV 3 rfl hS0 (fun W hW => jr underlying22 rfl hW rfl) (iq 4 rfl hS0 rfl (jv 5 rfl hS0 rfl (fU 6 rfl hS0 3 underlying184 rfl sizeOf3 rfl (iV 7 rfl hS0 (fun W hW => jr underlying3 rfl hW rfl) (iU 8 rfl hS0 (fun _ => mZ underlying22 sizeOf21 rfl rfl rfl (by omega)) (iq 9 rfl hS0 rfl (iq 10 rfl hS0 rfl (iU 11 rfl hS0 (fun _ => mZ underlying22 sizeOf21 rfl rfl rfl (by omega)) (jB 12 rfl (tu (i := i + r + 16) (m := L.drop i) VP (jV.from VP.r4.aT (by omega)) underlying22 (by kernel_rfl) (by rw [hm2]; rfl) rfl (by rw [hm2]; simp; omega)) ?_))))))))))))
 rintro _ w7 ⟨rfl, H7⟩
 refine zK (by kernel_rfl) ?_
 refine oV (fF (.inr rfl) results229 ?_)
 exact ⟨_, H7.swap.BL.right.BL.right⟩
theorem jR (H : aB w0 w (dJ p L pt mk • F)) : eG prog 185 #[.pointer (some ⟨p, 0, none⟩)] w fun v w' => v = .bool false ∧ w = w' := by
  obtain ⟨a, c, xs, f, t, h1, h2, h3, h4, h5, h6, h7, hc1, hc2, hl, H1⟩ := H.buf
  exact lu _ H1.get.2 rfl
def bG (pt i j n : Int) : Int := if j < pt then pt + (n - (j - i)) else if i ≤ pt then i + n else pt
def bH (mk i j n : Int) : Int := if j < mk then mk + (n - (j - i)) else if i < mk then i else mk
def dX (at_ : Int) (d i : Value) : Array Value := #[.int .i64 at_, d, i]
theorem jh {at_ : Int} {d i : Value} (hd : d.oneCell' = true) (hi : i.oneCell' = true) : ∀ v ∈ (dX at_ d i).toList, v.oneCell' = true := by
  intro v hv
  simp [dX] at hv
  rcases hv with rfl | rfl | rfl <;> first | rfl | assumption
variable {v : Value} {l : List Int} {i j : Int}
theorem yZ (H : aB w0 w (dJ p L pt mk • F)) (hr : iD w0 F .i32 v l) (hb : i < 0 ∨ L.length < i ∨ j < i ∨ L.length < j) :
  eG prog 193 #[.pointer (some ⟨p, 0, none⟩), .int .i64 i, .int .i64 j, v] w fun v' w' => v' = .tuple #[.agg (dX 0 (.slice none 0 0) (.slice none 0 0)), .int .i64 70] ∧ aB w0 w' (dJ p L pt mk • F) := by
 obtain ⟨a, c, rfl, _, _, _⟩ := (hr w H.right).open
 refine fP func193 ntmps193 ?_
 dsimp only [aX, Nat.reduceAdd]
 refine ay (ah (jo (pR H zeroValue101) ?_))
 rintro _ w1 ⟨b1, rfl, H1⟩
 refine aV rfl (aA (aj (ay (ah (aO rfl (dn rfl func186 (jF H1.right) ?_))))))
 rintro _ w2 ⟨rfl, hD⟩
 have HL := H1.pK hD
 refine aV rfl (aA (aj (ay (bg (ay (ah (aO rfl (dn rfl func185 (jR HL.right) ?_))))))))
 rintro _ _ ⟨rfl, rfl⟩
 refine aV rfl (aA (aj (aQ rfl (fun h1 => ?_) (fun h1 => ?_))))
 ·(try simp only [aI] at h1)
  try (exfalso; first | contradiction | omega)
  all_goals
   refine ay (ah (aW (dS (pl := #[(0, 1), (1, 1), (2, 1)]) (_) underlying101 zeroValue101 (fun w => by kernel_rfl) rfl (rfl)) (aG (dA HL sizeOf101 rfl rfl rfl (by decide)) ?_)))
   rintro _ w4 H4
   refine aV rfl (aA (aj (aJ (aU (aK ?_)))))
   refine dV (.inl rfl) results193 rfl rfl underlying101 rfl (by rw [show (prog.info? 101).map (·.size) = some 3 from by kernel_rfl]; rfl) H4.get.2 ?_
   exact ⟨rfl, H4.right⟩
 ·(try simp only [aI] at h1)
  try (exfalso; first | contradiction | omega)
  all_goals
   refine ay (ah (aO rfl (aW (eU rfl rfl) (fV rfl (fun h2 => ?_) (fun h2 => ?_)))))
   ·(try simp only [aI] at h2)
    try (exfalso; first | contradiction | omega)
    all_goals
     refine bC (bC (bC (fG rfl rfl (aO rfl (bC (bC (bC (fG rfl rfl (aO rfl (bC (bC (bC (fG rfl rfl (aV rfl (aA (aj (uI (ay (ah (aW (dS (pl := #[(0, 1), (1, 1), (2, 1)]) (dX 0 (.slice none 0 0) (.slice none 0 0)) underlying101 zeroValue101 (fun w => by kernel_rfl) rfl (by kernel_rfl)) (aG (cZ (cs := dX 0 (.slice none 0 0) (.slice none 0 0)) HL sizeOf101 rfl rfl rfl rfl (jh rfl rfl)) ?_)))))))))))))))))))))
     rintro _ w5 H5
     refine aV rfl (aA (aj (aJ (aU (aK ?_)))))
     refine dV (.inl rfl) results193 rfl rfl underlying101 rfl (by rw [show (prog.info? 101).map (·.size) = some 3 from by kernel_rfl]; rfl) H5.get.2 ?_
     exact ⟨rfl, H5.right⟩
   ·(try simp only [aI] at h2)
    try (exfalso; first | contradiction | omega)
    all_goals
     refine bf (aO rfl (bf (aO rfl (bf (aW (dB rfl rfl) (eY rfl rfl (fV rfl (fun h3 => ?_) (fun h3 => ?_))))))))
     ·(try simp only [aI] at h3)
      try (exfalso; first | contradiction | omega)
      all_goals
       refine bC (bC (bC (fG rfl rfl (aO rfl (bC (bC (bC (fG rfl rfl (aV rfl (aA (aj (uI (ay (ah (aW (dS (pl := #[(0, 1), (1, 1), (2, 1)]) (dX 0 (.slice none 0 0) (.slice none 0 0)) underlying101 zeroValue101 (fun w => by kernel_rfl) rfl (by kernel_rfl)) (aG (cZ (cs := dX 0 (.slice none 0 0) (.slice none 0 0)) HL sizeOf101 rfl rfl rfl rfl (jh rfl rfl)) ?_))))))))))))))))
       rintro _ w6 H6
       refine aV rfl (aA (aj (aJ (aU (aK ?_)))))
       refine dV (.inl rfl) results193 rfl rfl underlying101 rfl (by rw [show (prog.info? 101).map (·.size) = some 3 from by kernel_rfl]; rfl) H6.get.2 ?_
       exact ⟨rfl, H6.right⟩
     ·(try simp only [aI] at h3)
      try (exfalso; first | contradiction | omega)
      all_goals
       refine bf (aO rfl (bf (aO rfl (bf (aW (eU rfl rfl) (eY rfl rfl (fV rfl (fun h4 => ?_) (fun h4 => ?_))))))))
       ·(try simp only [aI] at h4)
        try (exfalso; first | contradiction | omega)
        all_goals
         refine bC (bC (bC (fG rfl rfl (aV rfl (aA (aj (uI (ay (ah (aW (dS (pl := #[(0, 1), (1, 1), (2, 1)]) (dX 0 (.slice none 0 0) (.slice none 0 0)) underlying101 zeroValue101 (fun w => by kernel_rfl) rfl (by kernel_rfl)) (aG (cZ (cs := dX 0 (.slice none 0 0) (.slice none 0 0)) HL sizeOf101 rfl rfl rfl rfl (jh rfl rfl)) ?_)))))))))))
         rintro _ w7 H7
         refine aV rfl (aA (aj (aJ (aU (aK ?_)))))
         refine dV (.inl rfl) results193 rfl rfl underlying101 rfl (by rw [show (prog.info? 101).map (·.size) = some 3 from by kernel_rfl]; rfl) H7.get.2 ?_
         exact ⟨rfl, H7.right⟩
       ·(try simp only [aI] at h4)
        try (exfalso; first | contradiction | omega)
        all_goals
         refine bf (aO rfl (bf (aO rfl (bf (aW (dB rfl rfl) (eY rfl rfl (aV rfl (aA (aj (aQ rfl (fun h5 => ?_) (fun h => by exfalso; (try simp only [aI] at h); first | contradiction | omega | (simp at h <;> omega))))))))))))
         (try simp only [aI] at h5)
         refine ay (ah (aW (dS (pl := #[(0, 1), (1, 1), (2, 1)]) (dX 0 (.slice none 0 0) (.slice none 0 0)) underlying101 zeroValue101 (fun w => by kernel_rfl) rfl (by kernel_rfl)) (aG (cZ (cs := dX 0 (.slice none 0 0) (.slice none 0 0)) HL sizeOf101 rfl rfl rfl rfl (jh rfl rfl)) ?_)))
         rintro _ w8 H8
         refine aV rfl (aA (aj (aJ (aU (aK ?_)))))
         refine dV (.inl rfl) results193 rfl rfl underlying101 rfl (by rw [show (prog.info? 101).map (·.size) = some 3 from by kernel_rfl]; rfl) H8.get.2 ?_
         exact ⟨rfl, H8.right⟩
theorem xQ (H : aB w0 w (dJ p L pt mk • F)) (hr : iD w0 F .i32 v l) (hb : 0 ≤ i ∧ i ≤ j ∧ j ≤ L.length) (hl : 1024 < L.length - (j - i) + l.length) :
  eG prog 193 #[.pointer (some ⟨p, 0, none⟩), .int .i64 i, .int .i64 j, v] w fun v' w' => v' = .tuple #[.agg (dX 0 (.slice none 0 0) (.slice none 0 0)), .int .i64 3] ∧ aB w0 w' (dJ p L pt mk • F) := by
 obtain ⟨a, c, rfl, _, _, _⟩ := (hr w H.right).open
 have hL4 : L.length ≤ 1024 := by obtain ⟨a, c, xs, f, t, h1, h2, h3, h4, h5, h6, h7, hc1, hc2, hl, H1⟩ := H.buf; exact h4
 refine fP func193 ntmps193 ?_
 dsimp only [aX, Nat.reduceAdd]
 refine ay (ah (jo (pR H zeroValue101) ?_))
 rintro _ w1 ⟨b1, rfl, H1⟩
 refine aV rfl (aA (aj (ay (ah (aO rfl (dn rfl func186 (jF H1.right) ?_))))))
 rintro _ w2 ⟨rfl, hD⟩
 have HL := H1.pK hD
 refine aV rfl (aA (aj (ay (bg (ay (ah (aO rfl (dn rfl func185 (jR HL.right) ?_))))))))
 rintro _ _ ⟨rfl, rfl⟩
 refine aV rfl (aA (aj (aQ rfl (fun h1 => ?_) (fun h1 => ?_))))
 ·(try simp only [aI] at h1)
  try (exfalso; first | contradiction | omega)
  all_goals
   refine ay (ah (aW (dS (pl := #[(0, 1), (1, 1), (2, 1)]) (_) underlying101 zeroValue101 (fun w => by kernel_rfl) rfl (rfl)) (aG (dA HL sizeOf101 rfl rfl rfl (by decide)) ?_)))
   rintro _ w4 H4
   refine aV rfl (aA (aj (aJ (aU (aK ?_)))))
   refine dV (.inl rfl) results193 rfl rfl underlying101 rfl (by rw [show (prog.info? 101).map (·.size) = some 3 from by kernel_rfl]; rfl) H4.get.2 ?_
   exact ⟨rfl, H4.right⟩
 ·(try simp only [aI] at h1)
  try (exfalso; first | contradiction | omega)
  all_goals
   refine ay (ah (aO rfl (aW (eU rfl rfl) (fV rfl (fun h2 => ?_) (fun h2 => ?_)))))
   ·(try simp only [aI] at h2)
    try (exfalso; first | contradiction | omega)
    all_goals
     refine bC (bC (bC (fG rfl rfl (aO rfl (bC (bC (bC (fG rfl rfl (aO rfl (bC (bC (bC (fG rfl rfl (aV rfl (aA (aj (uI (ay (ah (aW (dS (pl := #[(0, 1), (1, 1), (2, 1)]) (_) underlying101 zeroValue101 (fun w => by kernel_rfl) rfl (rfl)) (aG (dA HL sizeOf101 rfl rfl rfl (by decide)) ?_)))))))))))))))))))))
     rintro _ w5 H5
     refine aV rfl (aA (aj (aJ (aU (aK ?_)))))
     refine dV (.inl rfl) results193 rfl rfl underlying101 rfl (by rw [show (prog.info? 101).map (·.size) = some 3 from by kernel_rfl]; rfl) H5.get.2 ?_
     exact ⟨rfl, H5.right⟩
   ·(try simp only [aI] at h2)
    try (exfalso; first | contradiction | omega)
    all_goals
     refine bf (aO rfl (bf (aO rfl (bf (aW (dB rfl rfl) (eY rfl rfl (fV rfl (fun h3 => ?_) (fun h3 => ?_))))))))
     ·(try simp only [aI] at h3)
      try (exfalso; first | contradiction | omega)
      all_goals
       refine bC (bC (bC (fG rfl rfl (aO rfl (bC (bC (bC (fG rfl rfl (aV rfl (aA (aj (uI (ay (ah (aW (dS (pl := #[(0, 1), (1, 1), (2, 1)]) (_) underlying101 zeroValue101 (fun w => by kernel_rfl) rfl (rfl)) (aG (dA HL sizeOf101 rfl rfl rfl (by decide)) ?_))))))))))))))))
       rintro _ w6 H6
       refine aV rfl (aA (aj (aJ (aU (aK ?_)))))
       refine dV (.inl rfl) results193 rfl rfl underlying101 rfl (by rw [show (prog.info? 101).map (·.size) = some 3 from by kernel_rfl]; rfl) H6.get.2 ?_
       exact ⟨rfl, H6.right⟩
     ·(try simp only [aI] at h3)
      try (exfalso; first | contradiction | omega)
      all_goals
       refine bf (aO rfl (bf (aO rfl (bf (aW (eU rfl rfl) (eY rfl rfl (fV rfl (fun h4 => ?_) (fun h4 => ?_))))))))
       ·(try simp only [aI] at h4)
        try (exfalso; first | contradiction | omega)
        all_goals
         refine bC (bC (bC (fG rfl rfl (aV rfl (aA (aj (uI (ay (ah (aW (dS (pl := #[(0, 1), (1, 1), (2, 1)]) (_) underlying101 zeroValue101 (fun w => by kernel_rfl) rfl (rfl)) (aG (dA HL sizeOf101 rfl rfl rfl (by decide)) ?_)))))))))))
         rintro _ w7 H7
         refine aV rfl (aA (aj (aJ (aU (aK ?_)))))
         refine dV (.inl rfl) results193 rfl rfl underlying101 rfl (by rw [show (prog.info? 101).map (·.size) = some 3 from by kernel_rfl]; rfl) H7.get.2 ?_
         exact ⟨rfl, H7.right⟩
       ·(try simp only [aI] at h4)
        try (exfalso; first | contradiction | omega)
        all_goals
         refine bf (aO rfl (bf (aO rfl (bf (aW (dB rfl rfl) (eY rfl rfl (aV rfl (aA (aj (aQ rfl (fun h => by exfalso; (try simp only [aI] at h); first | contradiction | omega | (simp at h <;> omega)) (fun h5 => ?_)))))))))))
         (try simp only [aI] at h5)
         refine ay (ah (aO rfl (aW (fB underlying22 rfl) (aO rfl (aO rfl (aO rfl (aW (gU rfl rfl (by omega)) (aW (gU rfl rfl (by omega)) (aW (gU rfl rfl (by omega)) (aW (dB rfl rfl) (aV rfl (aA (aj (aQ rfl (fun h6 => ?_) (fun h => by exfalso; (try simp only [aI] at h); first | contradiction | omega | (simp at h <;> omega))))))))))))))))
         (try simp only [aI] at h6)
         refine ay (ah (aW (dS (pl := #[(0, 1), (1, 1), (2, 1)]) (dX 0 (.slice none 0 0) (.slice none 0 0)) underlying101 zeroValue101 (fun w => by kernel_rfl) rfl (by kernel_rfl)) (aG (cZ (cs := dX 0 (.slice none 0 0) (.slice none 0 0)) HL sizeOf101 rfl rfl rfl rfl (jh rfl rfl)) ?_)))
         rintro _ w8 H8
         refine aV rfl (aA (aj (aJ (aU (aK ?_)))))
         refine dV (.inl rfl) results193 rfl rfl underlying101 rfl (by rw [show (prog.info? 101).map (·.size) = some 3 from by kernel_rfl]; rfl) H8.get.2 ?_
         exact ⟨rfl, H8.right⟩
end
end Go.Proofs.YtgndbccogcofjaaGreatDoor
end
