import Derived.Test.YtpdeedplgmbopaaGreatDoorZ4
import Derived.Test.YtpdeedplgmbopaaGreatDoorZ15
import Derived.Test.YtpdeedplgmbopaaGreatDoorZ6
import Derived.Shelf.Bits.Mul64
import Derived.Test.YtpdeedplgmbopaaGreatDoorZ20
import Derived.Test.YtpdeedplgmbopaaGreatDoorZ12
import Derived.Test.YtpdeedplgmbopaaGreatDoorZ16
import Derived.Test.YtpdeedplgmbopaaGreatDoorZ17
set_option linter.unusedSimpArgs false
set_option linter.unusedVariables false
/- Texts of mine, joined, their names in short: Rep Rep2 VTurn VFr VReach. -/
section
namespace Go.Proofs.YtpdeedplgmbopaaGreatDoor
open Go.RowKit
open _root_.Go.Proofs.Tryz
section
variable {P : Program} {L : List (Nat × Value)} {w : World} {ty t t' src dst : TypeId} {x y : Operand} {m n p : Int}
theorem ad1 (h : 0 ≤ m ∧ m < 4294967296) (hx : ev L x = some (.int .u64 m)) (hy : ev L y = some (.int .u64 4294967295)) : Val P L (.binOp .and t x y t') ty w (.int .u64 m) w := by
  have := aat (P := P) (w := w) (ty := ty) (t := t) (t' := t') .and hx hy (.inl rfl)
  obtain ⟨k, rfl⟩ : ∃ k : Nat, m = k := ⟨m.toNat, by omega⟩
  rwa [Mul64.maskN k (by omega), show k % 4294967296 = k from by omega] at this
theorem XA (h : 0 ≤ m ∧ m < 4294967296) (hx : ev L x = some (.int .u64 m)) (hy : ev L y = some (.int .u64 32)) : Val P L (.binOp .shr t x y t') ty w (.int .u64 0) w := by
  have := ajz (P := P) (w := w) (ty := ty) (t := t) (t' := t') 32 4294967296 (by decide) (by decide) hx hy
  rwa [show m / 4294967296 = 0 from by omega] at this
theorem XB (hp : m * n = p) (h : 0 ≤ p ∧ p < 18446744073709551616) (hx : ev L x = some (.int .u64 m)) (hy : ev L y = some (.int .u64 n)) : Val P L (.binOp .mul t x y t') ty w (.int .u64 p) w := by
  have := acg (P := P) (w := w) (ty := ty) (t := t) (t' := t') hx hy
  rwa [hp, IntKind.wrap_u64, show p % 18446744073709551616 = p from by omega] at this
theorem aaE (hp : m + n = p) (h : 0 ≤ p ∧ p < 18446744073709551616) (hx : ev L x = some (.int .u64 m)) (hy : ev L y = some (.int .u64 n)) : Val P L (.binOp .add t x y t') ty w (.int .u64 p) w := by
  have := rV (P := P) (w := w) (ty := ty) (t := t) (t' := t') hx hy
  rwa [hp, IntKind.wrap_u64, show p % 18446744073709551616 = p from by omega] at this
theorem u_conv (h : 0 ≤ m ∧ m < 9223372036854775808) (hx : ev L x = some (.int .i64 m)) (hs : (P.underlying src).isSome = true) (hd : P.underlying dst = some (.int .u64)) : Val P L (.convert src dst x) ty w (.int .u64 m) w :=
  sV hx hs hd (by rw [IntKind.wrap_u64]; omega)
theorem ain (h : 0 ≤ m ∧ m < 9223372036854775808) (hx : ev L x = some (.int .u64 m)) (hs : (P.underlying src).isSome = true) (hd : P.underlying dst = some (.int .i64)) : Val P L (.convert src dst x) ty w (.int .i64 m) w :=
  sV hx hs hd (by rw [IntKind.wrap_i64]; omega)
theorem Qs {w0 : World} {F : HP} {t e ts : Nat} {k : IntKind} {v sv : Value} {l m : List Int} {i : Nat} (H : V w0 w (je e k v l • F)) (hr : gB w k sv m) (ht : P.underlying t = some (.slice e)) (hs : (P.info? e).map (·.size) = some 1)
    (hx : ev L x = some (wV 1 i l.length v)) (hy : ev L y = some sv) (hi : i ≤ l.length) :
    zU P L (.call ⟨.builtin .copy, #[x, y], #[t, ts]⟩) ty w fun v' w' => v' = .int .i64 ((min m.length (l.length - i) : Nat) : Int) ∧ V w0 w' (je e k v (iY l i (m.take (l.length - i))) • F) := by
  have hlen := H.rJ
  by_cases h0 : min m.length (l.length - i) = 0
  · have hm0 : m.take (l.length - i) = [] := List.eq_nil_of_length_eq_zero (by rw [List.length_take]; omega)
    obtain ⟨a, c, hv, _⟩ := (H.aO).form
    subst hv
    obtain ⟨a2, c2, rfl, _⟩ := hr.open
    refine yT (v := .int .i64 0) (w' := w) (vF (vs := [wV 1 i l.length (.slice a l.length c), .slice a2 m.length c2]) (by simp [Je, hx, hy]) fun _ => ?_) ⟨by rw [h0]; rfl, by rw [hm0]; simpa [iY] using H⟩
    have := run_copy_none (P := P) w t ts ty e (Gw a i c 1) a2 (l.length - i) (c - i) m.length c2 ht hs h0
    simp only [builtin, Sem.run_bind]
    rw [show wV 1 i l.length (.slice a l.length c) = .slice (Gw a i c 1) (l.length - i) (c - i) from rfl]
    rw [this]
    rfl
  · obtain ⟨m', hm'⟩ : ∃ m', m' = m.take (l.length - i) := ⟨_, rfl⟩
    rw [← hm']
    have hml : m'.length = min m.length (l.length - i) := by rw [hm']; simp; omega
    rw [← hml]
    rcases H.xZ with ⟨a, hv, hn, hxs, H1⟩ | ⟨g, o, c, cur, hv, h2, h3, h4, h5, H1⟩
    · omega
    subst hv
    obtain ⟨a2, c2, rfl, _, _, hc⟩ := hr.open
    obtain ⟨b, o2, rfl, hcell⟩ := hc (by omega)
    have hci : ¬ c = i := by omega
    have hd : wV 1 i l.length (.slice (some ⟨g, o, none⟩) l.length c) = .slice (some ⟨g, o + i, none⟩) (l.length - i) (c - i) := by simp [wV, Gw, hci, yM]
    rw [hd] at hx
    have h : i + m'.length ≤ l.length := by omega
    have hrun := run_copy_row (P := P) w t ts ty e g (o + i) (l.length - i) (c - i) ⟨b, o2, none⟩ m.length c2 cur e (m'.map (Value.int k)) ht hs H1.get.2 (by rw [List.length_map, hml]) (fun j u hj => by
      have hj' : j < m'.length := by have := (List.getElem?_eq_some_iff.1 hj).1; simpa using this
      rw [yM, hcell j (by omega)]
      simp [hj'] at hj
      rw [← hj, List.getD_eq_getElem?_getD, List.getElem?_eq_getElem (by omega)]
      simp [hm']) (by simp; omega) (J8 _ _)
    refine yT (v := .int .i64 m'.length) (w' := w.setRow g (cur.toList.take (o + i) ++ m'.map (Value.int k) ++ cur.toList.drop (o + i + (m'.map (Value.int k)).length)).toArray)
      (vF (vs := [.slice (some ⟨g, o + i, none⟩) (l.length - i) (c - i), .slice (some ⟨b, o2, none⟩) m.length c2]) (by simp [Je, hx, hy]) fun _ => ?_) ⟨rfl, ?_⟩
    · simp only [builtin, Sem.run_bind]
      rw [hrun]
      simp [goInt]
    · have HT := H1.turn (w' := w.setRow g (cur.toList.take (o + i) ++ m'.map (Value.int k) ++ cur.toList.drop (o + i + (m'.map (Value.int k)).length)).toArray) (o' := .cells (cur.toList.take (o + i) ++ m'.map (Value.int k) ++ cur.toList.drop (o + i + (m'.map (Value.int k)).length)).toArray e (0, 0)) rfl rfl rfl (by simp [World.setRow]) (setRow_heap _ _ _ _ _ _ H1.get.2) fun k hk _ => setRow_other _ _ _ _ hk
      have hsp : (iY l i m').length = l.length := iq h
      unfold je
      rw [hsp]
      refine HT.Dz (by simp [hsp]) rfl h2 h3 (by simp; omega) fun j hj => ?_
      have hj' : j < l.length := by simpa using hj
      have h5' := h5 j hj
      simp only [List.getElem?_toArray, List.length_map]
      by_cases h6 : j < i
      · rw [List.append_assoc, List.getElem?_append_left (by simp; omega), List.getElem?_take_of_lt (by omega), Array.getElem?_toList, h5']
        simp only [List.getD_eq_getElem?_getD, List.getElem?_map]
        simp only [iY, List.append_assoc]
        rw [List.getElem?_append_left (by simp; omega), List.getElem?_take_of_lt h6]
      · by_cases h7 : j < i + m'.length
        · rw [List.getElem?_append_left (by simp; omega), List.getElem?_append_right (by simp; omega)]
          simp only [List.getD_eq_getElem?_getD, List.getElem?_map, iY]
          rw [List.getElem?_append_left (by simp; omega), List.getElem?_append_right (by simp; omega)]
          simp only [List.length_take, Array.length_toList, show min (o + i) cur.size = o + i from by omega, show min i l.length = i from by omega, show o + j - (o + i) = j - i from by omega]
          rw [List.getElem?_eq_getElem (by omega)]
          rfl
        · rw [List.getElem?_append_right (by simp; omega), List.getElem?_drop]
          simp only [List.getD_eq_getElem?_getD, List.getElem?_map, iY]
          rw [List.getElem?_append_right (by simp; omega), List.getElem?_drop]
          simp only [List.length_append, List.length_map, List.length_take, Array.length_toList, show min (o + i) cur.size = o + i from by omega, show min i l.length = i from by omega]
          rw [show o + i + m'.length + (o + j - (o + i + m'.length)) = o + j from by omega, Array.getElem?_toList, h5', show i + m'.length + (j - (i + m'.length)) = j from by omega]
          simp [List.getD_eq_getElem?_getD]
end
section
variable {w0 w : World} {F : HP} {v : Value} {l : List Int} {m n p : Int} {c : Nat}
theorem abT (hm : 0 ≤ m ∧ m < 4294967296) (hn : 0 ≤ n ∧ n < 4294967296) (hp : m * n = p ∧ 0 ≤ p ∧ p < 4294967296) : jf prog 213 #[.int .u64 m, .int .u64 n] w fun v w' => v = .tuple #[.int .u64 0, .int .u64 p] ∧ w = w' := by
  refine qo func213 ntmps213 ?_
  refine jg (gW O (fO O (bI O (aV (ad1 hm O O) (fO O (bI O (aV (XA hm O O) (fO O (bI O (aV (ad1 hn O O) (fO O (bI O (aV (XA hn O O) (fO O (bI O (bW O (aV (XB hp.1 (by omega) O O) (gW O ?_))))))))))))))))))
  refine uS O (bW O (aV (XB (p := 0) (by omega) (by omega) O O) (bW O (aV (XA hp.2 O O) (aV (aaE (p := 0) (by omega) (by omega) O O) (fO O (bI O (aV (ad1 (by omega) O O) (fO O (bI O (aV (XA (by omega) O O) (fO O (bI O (jU O O (aV (XB (p := 0) (by omega) (by omega) O O) (aV (aaE (p := 0) (by omega) (by omega) O O) (fO O (bI O ?_))))))))))))))))))
  refine bW O (aV (XB (p := 0) (by omega) (by omega) O O) (bW O (aV (aaE (p := 0) (by omega) (by omega) O O) (bW O (aV (XA (by omega) O O) (aV (aaE (p := 0) (by omega) (by omega) O O) (fO O (bI O (bW O (aV (XB hp.1 (by omega) O O) (fP O (MO results213 O O ?_))))))))))))
  exact ⟨O, O⟩
theorem af6 (H : V w0 w F) (hm : 0 ≤ m ∧ m < 4294967296) (hn : 0 ≤ n ∧ n < 4294967296) (hp : m * n = p ∧ 0 ≤ p ∧ p < 4294967296) : jf prog 201 #[.int .u64 m, .int .u64 n] w fun v w' => v = .tuple #[.int .u64 0, .int .u64 p] ∧ V w0 w' F := by
  refine qo func201 ntmps201 ?_
  refine jg (gW O (tX O (oL (gy (bI O (bW O (dX O func213 (abT hm hn hp) ?_)))))))
  rintro _ _ ⟨rfl, rfl⟩
  refine bW O (oZ O O (oZ O O (gW O (fO O (bI O (bW O (gW O (fP O (MO results201 O O ?_)))))))))
  exact ⟨O, H⟩
end
theorem alo {w0 w : World} {F : HP} {e : TypeId} {k : IntKind} {v : Value} {l : List Int} (H : V w0 w (je e k v l • F)) : wV 1 0 l.length v = v := by
  obtain ⟨a, c, hv, _⟩ := (H.aO).form
  subst hv
  exact OA _ _ _ _
theorem Zv {l xs : List Int} : iY xs 0 (l.take xs.length) = l.take xs.length ++ xs.drop (min l.length xs.length) := by
  unfold iY
  rw [List.take_zero, List.nil_append, Nat.zero_add, List.length_take, Nat.min_comm]
theorem Zw {l r xs : List Int} {j : Nat} (hj : j ≤ xs.length) (h : ∀ x ∈ xs.take j, x ∈ l) (hr : ∀ x ∈ r, x ∈ l) (hl : j + r.length ≤ xs.length) : ∀ x ∈ (iY xs j r).take (j + r.length), x ∈ l := by
  intro x hx
  unfold iY at hx
  rw [List.take_append_of_le_length (by simp; omega), List.take_of_length_le (by simp; omega)] at hx
  rcases List.mem_append.1 hx with hx | hx
  · exact h x hx
  · exact hr x hx
section
variable {w0 w : World} {F : HP} {v : Value} {l : List Int} {n : Int}
theorem af7 (H : V w0 w F) (hr : jO w0 F .i32 v l) (hn : 0 ≤ n ∧ n < 4294967296) (hl : (l.length : Int) < 4294967296 ∧ (l.length : Int) * n < 1073741824) :
  jf prog 187 #[v, .int .i64 n] w fun v' w' => ∃ r : List Int, (r.length : Int) = l.length * n ∧ (∀ x ∈ r, x ∈ l) ∧ V w0 w' (je 21 .i32 v' r • F) := by
 have hm : (0 : Int) ≤ l.length ∧ (l.length : Int) < 4294967296 := ⟨by omega, hl.1⟩
 have hp0 : (0 : Int) ≤ l.length * n := Int.mul_nonneg (by omega) hn.1
 obtain ⟨T, hT⟩ : ∃ T : Nat, (l.length : Int) * n = T := ⟨((l.length : Int) * n).toNat, by omega⟩
 have hp : (l.length : Int) * n = (T : Int) ∧ (0 : Int) ≤ T ∧ (T : Int) < 4294967296 := ⟨hT, by omega, by omega⟩
 have hT9 : T < 1073741824 := by omega
 have hT0 : l.length = 0 → T = 0 := fun h => by rw [h] at hT; simp at hT; omega
 refine qo func187 ntmps187 ?_
 refine kH O (aI (bI O (aV (gG O O) (iW O (fun h => by exfalso; (try simp only [Z] at h); omega) (fun h1 => ?_)))))
 (try simp only [Z] at h1)
 refine gy (bI O (aV (gZ (hr _ (H)) ah O) ?_))
 refine aV (u_conv (by omega) O (by rw [underlying3]; rfl) underlying259) ?_
 refine bW O ?_
 refine aV (u_conv (by omega) O (by rw [underlying3]; rfl) underlying259) ?_
 refine dX O func201 (af6 H hm hn hp) ?_
 rintro _ w1 ⟨rfl, H1⟩
 refine bW O (oZ O O (oZ O O (gW O (tX O (bI O (aV (gK O O) (jY O (fun h => by exfalso; (try simp only [Z] at h); omega) (fun h2 => ?_))))))))
 (try simp only [Z] at h2)
 refine bF (bW O (bF (aV (gK O O) (iH O O (iW O (fun h => by exfalso; (try simp only [Z] at h); omega) (fun h3 => ?_))))))
 (try simp only [Z] at h3)
 refine gy (bI O ?_)
 refine aV (ain (by omega) O (by rw [underlying259]; rfl) aA) ?_
 refine kV (MN H1 ah (by kernel_rfl : (prog.info? 21).map (fun i => (i.zero, i.size, i.bytes)) = some (some (.int .i32 0), 1, 4)) O O (by omega) (by omega) (by omega)) ?_
 rintro l2 w2 H2
 rw [Int.toNat_natCast] at H2
 refine fO O (bI O (bW O (kV (Qs (i := 0) (m := l) H2 (hr _ H2.right) ah (by kernel_rfl) (by rw [alo H2]; rfl) O (by omega)) ?_)))
 rintro _ w3 ⟨rfl, H3⟩
 refine tX O (bf ?_)
 refine iy [(7, _)] (fun (⟨xs, j⟩ : List Int × Nat) => [(8, .int .i64 (j : Int))]) (fun (⟨xs, j⟩ : List Int × Nat) W => xs.length = T ∧ j ≤ T ∧ (T = 0 ∨ 0 < j) ∧ (∀ x ∈ xs.take j, x ∈ l) ∧ V w0 W (je 21 .i32 l2 xs • F)) (fun (⟨xs, j⟩ : List Int × Nat) => T - j) ((iY (List.replicate T 0) 0 (l.take ((List.replicate T (0 : Int)).length - 0)), min l.length ((List.replicate T (0 : Int)).length - 0))) lH lH ⟨by rw [iq (by simp; omega)]; simp, by simp; omega, by simp; omega, by rw [Nat.sub_zero, Zv]; intro x hx; rw [List.take_append_of_le_length (by simp; omega)] at hx; exact List.mem_of_mem_take (List.mem_of_mem_take hx), H3⟩ ?_
 rintro ⟨xs, j⟩ w4 ⟨hxl, hj, hj0, hmem, HL⟩
 dsimp only [List.cons_append, List.nil_append]
 refine aI (bI O (bW O (aV (gZ ((HL).aO) ah O) (aV (gG O O) (iW O (fun h4 => ?_) (fun h4 => ?_))))))
 ·(try simp only [Z] at h4)
  refine gy (bf ?_)
  have htl : (xs.take j).length = j := by simp; omega
  have ad2 := HL.drew
  have Ny := V.kp (ad2)
  refine nG [] Ny O (fD 0 O Ny O (fD 1 O Ny O (fD 2 O Ny O (dS 3 O Ny (fun _ => pF ((ad2).aO) ah bP O O O (by omega)) ?_))))
  refine fD 4 O Ny O (fD 5 O Ny O (dS 6 O Ny (fun _ => pF ((ad2).aO) ah bP O O O (by omega)) ?_))
  refine ny 7 O (Qs (i := j) (m := xs.take j) ad2 (gB.upto ad2.aO (by omega)) ah (by kernel_rfl) O O (by omega)) ?_
  rintro _ w5 ⟨rfl, H5⟩
  have D8 := V.kp (H5)
  refine gU D8 (by kernel_rfl) ?_
  refine dS 8 O D8 (fun _ => fH O O (by omega)) (dS 9 O D8 (fun _ => aW O) (lJ (aH ?_)))
  refine dN ((iY xs j ((xs.take j).take (xs.length - j)), j + min (xs.take j).length (xs.length - j))) ?_ ?_ ?_ ?_
  ·exact lH
  ·exact lH
  ·(try dsimp only)
   first | done | exact ⟨by rw [iq (by simp; omega)]; exact hxl, by simp; omega, by simp; omega, (by have h9 := Zw (l := l) (xs := xs) (j := j) (r := (xs.take j).take (xs.length - j)) (by omega) hmem (fun x hx => hmem x (List.mem_of_mem_take hx)) (by simp; omega); rwa [show ((xs.take j).take (xs.length - j)).length = min (xs.take j).length (xs.length - j) from by simp; omega] at h9), H5⟩
  ·(try dsimp only); omega
 ·(try simp only [Z] at h4)
  refine dR (aP (aP (bH (aU (bI O (fP O (dL results187 O ?_)))))))
  have hjT : j = T := by omega
  exact ⟨xs, by omega, fun x hx => hmem x (by rw [List.take_of_length_le (by omega)]; exact hx), HL⟩
end
def Zx (r : Int) : Int := if 97 ≤ r ∧ r ≤ 122 ∨ 224 ≤ r ∧ r ≤ 254 ∧ r ≠ 247 then IntKind.i32.wrap (r - 32) else r
def loM (r : Int) : Int := if 65 ≤ r ∧ r ≤ 90 ∨ 192 ≤ r ∧ r ≤ 222 ∧ r ≠ 215 then IntKind.i32.wrap (r + 32) else r
def swp (r : Int) : Int := if Zx r = r then loM r else Zx r
theorem agZ {r : Int} (h : ¬ Zx r = r) : swp r = Zx r := if_neg h
theorem ag0 {r : Int} (h : Zx r = r) : swp r = loM r := if_pos h
theorem Lh {l : List Int} {i : Nat} (h : i < l.length) : (l.take (i + 1)).map swp = (l.take i).map swp ++ [swp (l.getD i 0)] := by
  rw [List.take_succ_eq_append_getElem h, List.map_append, List.getD_eq_getElem?_getD, List.getElem?_eq_getElem h]; rfl
theorem af8 {r : List Int} {k n : Int} (h : (r.length : Int) = ([k].length : Int) * n) (g : ∀ x ∈ r, x ∈ [k]) : r = List.replicate n.toNat k := by
  rw [List.eq_replicate_iff]
  refine ⟨by simp at h; omega, fun x hx => List.mem_singleton.1 (g x hx)⟩
namespace bQ
variable (s : bQ)
def tnR (j : Int) (l : List Int) (x : Int) : Int × bQ := if s.rD s.c.pt j l = 0 then ((s.nR s.c.pt j l).DL x, (s.nR s.c.pt j l).wK x) else (s.rD s.c.pt j l, s.nR s.c.pt j l)
def Rw (n : Int) : Int := s.c.pt + min n ((s.c.L.length : Int) - s.c.pt)
def Lj (name : ByteArray) (keys : List Int) (n : Int) : Int × bQ :=
  if name.toList = vw.toList then (if (s.c.L.length : Int) - s.c.pt < n then (6, s) else s.tnR (s.Rw n) (List.replicate n.toNat (keys.getD 1 0)) (s.Rw n - 1))
  else if s.c.pt = s.c.L.length then (6, s) else s.tnR (s.Rw n) (((s.c.L.drop s.c.pt.toNat).take ((s.Rw n).toNat - s.c.pt.toNat)).map swp) (s.Rw n)
end bQ
section
variable {w0 w : World} {F : HP} {c m e : Nat} {s t : bQ} {name : ByteArray} {kv lv : Value} {n p i j q a r x : Int} {g : Bool} {keys l : List Int} {k : Nat}
theorem aio : jf prog 189 #[.int .i32 r] w fun v w' => v = .int .i32 (Zx r) ∧ w = w' := by
  refine jE func189 ntmps189 ?_
  refine kH O (aI (bI O (aV (mJ O O) (jY O (fun h1 => ?_) (fun h1 => ?_)))))
  · (try simp only [Z] at h1)
    try (exfalso; first | contradiction | omega)
    all_goals
      refine bF (bW O (bF (aV (rQ O O) (jQ O O (jY O (fun h2 => ?_) (fun h2 => ?_))))))
      · (try simp only [Z] at h2)
        try (exfalso; first | contradiction | omega)
        all_goals
          refine bK (bK (bK (ni (ni (bK (bK (ni (ni (bK (jQ O O (iR (ET (bI O (aV (Bo O O) (fP O (aC (dL sO O ?_)))))))))))))))))
          refine ⟨?_, O⟩; unfold Zx; first | rw [if_pos (by omega)] | rw [if_neg (by omega)]
      · (try simp only [Z] at h2)
        try (exfalso; first | contradiction | omega)
        all_goals
          refine bF (bW O (bF (aV (mJ O O) (bF (jY O (fun h3 => ?_) (fun h3 => ?_))))))
          · (try simp only [Z] at h3)
            try (exfalso; first | contradiction | omega)
            all_goals
              refine bF (bW O (bF (aV (rQ O O) (bF (jQ O O (bF (jY O (fun h4 => ?_) (fun h4 => ?_))))))))
              · (try simp only [Z] at h4)
                try (exfalso; first | contradiction | omega)
                all_goals
                  refine bF (bW O (bF (aV (fF O O) (bF (jQ O O (iH O O (iW O (fun h5 => ?_) (fun h5 => ?_))))))))
                  · (try simp only [Z] at h5)
                    try (exfalso; first | contradiction | omega)
                    all_goals
                      refine bI O (aV (Bo O O) (fP O (aC (dL sO O ?_))))
                      refine ⟨?_, O⟩; unfold Zx; first | rw [if_pos (by omega)] | rw [if_neg (by omega)]
                  · (try simp only [Z] at h5)
                    try (exfalso; first | contradiction | omega)
                    all_goals
                      refine gy (bI O (fP O (dL sO O ?_)))
                      refine ⟨?_, O⟩; unfold Zx; first | rw [if_pos (by omega)] | rw [if_neg (by omega)]
              · (try simp only [Z] at h4)
                try (exfalso; first | contradiction | omega)
                all_goals
                  refine bK (bK (bF (iH O O (iH O O (iR (oL (gy (bI O (fP O (dL sO O ?_))))))))))
                  refine ⟨?_, O⟩; unfold Zx; first | rw [if_pos (by omega)] | rw [if_neg (by omega)]
          · (try simp only [Z] at h3)
            try (exfalso; first | contradiction | omega)
            all_goals
              refine bK (bK (bF (iH O O (bF (bW O (bK (bK (bF (iH O O (iH O O (iR (oL (gy (bI O (fP O (dL sO O ?_))))))))))))))))
              refine ⟨?_, O⟩; unfold Zx; first | rw [if_pos (by omega)] | rw [if_neg (by omega)]
  · (try simp only [Z] at h1)
    try (exfalso; first | contradiction | omega)
    all_goals
      refine bK (bK (iH O O (bW O (bF (bW O (bF (aV (mJ O O) (bF (jY O (fun h6 => ?_) (fun h6 => ?_))))))))))
      · (try simp only [Z] at h6)
        try (exfalso; first | contradiction | omega)
        all_goals
          refine bF (bW O (bF (aV (rQ O O) (bF (jQ O O (bF (jY O (fun h7 => ?_) (fun h7 => ?_))))))))
          · (try simp only [Z] at h7)
            try (exfalso; first | contradiction | omega)
            all_goals
              refine bF (bW O (bF (aV (fF O O) (bF (jQ O O (iH O O (iW O (fun h8 => ?_) (fun h8 => ?_))))))))
              · (try simp only [Z] at h8)
                try (exfalso; first | contradiction | omega)
                all_goals
                  refine bI O (aV (Bo O O) (fP O (aC (dL sO O ?_))))
                  refine ⟨?_, O⟩; unfold Zx; first | rw [if_pos (by omega)] | rw [if_neg (by omega)]
              · (try simp only [Z] at h8)
                try (exfalso; first | contradiction | omega)
                all_goals
                  refine gy (bI O (fP O (dL sO O ?_)))
                  refine ⟨?_, O⟩; unfold Zx; first | rw [if_pos (by omega)] | rw [if_neg (by omega)]
          · (try simp only [Z] at h7)
            try (exfalso; first | contradiction | omega)
            all_goals
              refine bK (bK (bF (iH O O (iH O O (iR (oL (gy (bI O (fP O (dL sO O ?_))))))))))
              refine ⟨?_, O⟩; unfold Zx; first | rw [if_pos (by omega)] | rw [if_neg (by omega)]
      · (try simp only [Z] at h6)
        try (exfalso; first | contradiction | omega)
        all_goals
          refine bK (bK (bF (iH O O (bF (bW O (bK (bK (bF (iH O O (iH O O (iR (oL (gy (bI O (fP O (dL sO O ?_))))))))))))))))
          refine ⟨?_, O⟩; unfold Zx; first | rw [if_pos (by omega)] | rw [if_neg (by omega)]
theorem aip : jf prog 190 #[.int .i32 r] w fun v w' => v = .int .i32 (loM r) ∧ w = w' := by
  refine jE func190 ntmps190 ?_
  refine kH O (aI (bI O (aV (mJ O O) (jY O (fun h1 => ?_) (fun h1 => ?_)))))
  · (try simp only [Z] at h1)
    try (exfalso; first | contradiction | omega)
    all_goals
      refine bF (bW O (bF (aV (rQ O O) (jQ O O (jY O (fun h2 => ?_) (fun h2 => ?_))))))
      · (try simp only [Z] at h2)
        try (exfalso; first | contradiction | omega)
        all_goals
          refine bK (bK (bK (ni (ni (bK (bK (ni (ni (bK (jQ O O (iR (ET (bI O (aV (rV O O) (fP O (aC (dL sQ O ?_)))))))))))))))))
          refine ⟨?_, O⟩; unfold loM; first | rw [if_pos (by omega)] | rw [if_neg (by omega)]
      · (try simp only [Z] at h2)
        try (exfalso; first | contradiction | omega)
        all_goals
          refine bF (bW O (bF (aV (mJ O O) (bF (jY O (fun h3 => ?_) (fun h3 => ?_))))))
          · (try simp only [Z] at h3)
            try (exfalso; first | contradiction | omega)
            all_goals
              refine bF (bW O (bF (aV (rQ O O) (bF (jQ O O (bF (jY O (fun h4 => ?_) (fun h4 => ?_))))))))
              · (try simp only [Z] at h4)
                try (exfalso; first | contradiction | omega)
                all_goals
                  refine bF (bW O (bF (aV (fF O O) (bF (jQ O O (iH O O (iW O (fun h5 => ?_) (fun h5 => ?_))))))))
                  · (try simp only [Z] at h5)
                    try (exfalso; first | contradiction | omega)
                    all_goals
                      refine bI O (aV (rV O O) (fP O (aC (dL sQ O ?_))))
                      refine ⟨?_, O⟩; unfold loM; first | rw [if_pos (by omega)] | rw [if_neg (by omega)]
                  · (try simp only [Z] at h5)
                    try (exfalso; first | contradiction | omega)
                    all_goals
                      refine gy (bI O (fP O (dL sQ O ?_)))
                      refine ⟨?_, O⟩; unfold loM; first | rw [if_pos (by omega)] | rw [if_neg (by omega)]
              · (try simp only [Z] at h4)
                try (exfalso; first | contradiction | omega)
                all_goals
                  refine bK (bK (bF (iH O O (iH O O (iR (oL (gy (bI O (fP O (dL sQ O ?_))))))))))
                  refine ⟨?_, O⟩; unfold loM; first | rw [if_pos (by omega)] | rw [if_neg (by omega)]
          · (try simp only [Z] at h3)
            try (exfalso; first | contradiction | omega)
            all_goals
              refine bK (bK (bF (iH O O (bF (bW O (bK (bK (bF (iH O O (iH O O (iR (oL (gy (bI O (fP O (dL sQ O ?_))))))))))))))))
              refine ⟨?_, O⟩; unfold loM; first | rw [if_pos (by omega)] | rw [if_neg (by omega)]
  · (try simp only [Z] at h1)
    try (exfalso; first | contradiction | omega)
    all_goals
      refine bK (bK (iH O O (bW O (bF (bW O (bF (aV (mJ O O) (bF (jY O (fun h6 => ?_) (fun h6 => ?_))))))))))
      · (try simp only [Z] at h6)
        try (exfalso; first | contradiction | omega)
        all_goals
          refine bF (bW O (bF (aV (rQ O O) (bF (jQ O O (bF (jY O (fun h7 => ?_) (fun h7 => ?_))))))))
          · (try simp only [Z] at h7)
            try (exfalso; first | contradiction | omega)
            all_goals
              refine bF (bW O (bF (aV (fF O O) (bF (jQ O O (iH O O (iW O (fun h8 => ?_) (fun h8 => ?_))))))))
              · (try simp only [Z] at h8)
                try (exfalso; first | contradiction | omega)
                all_goals
                  refine bI O (aV (rV O O) (fP O (aC (dL sQ O ?_))))
                  refine ⟨?_, O⟩; unfold loM; first | rw [if_pos (by omega)] | rw [if_neg (by omega)]
              · (try simp only [Z] at h8)
                try (exfalso; first | contradiction | omega)
                all_goals
                  refine gy (bI O (fP O (dL sQ O ?_)))
                  refine ⟨?_, O⟩; unfold loM; first | rw [if_pos (by omega)] | rw [if_neg (by omega)]
          · (try simp only [Z] at h7)
            try (exfalso; first | contradiction | omega)
            all_goals
              refine bK (bK (bF (iH O O (iH O O (iR (oL (gy (bI O (fP O (dL sQ O ?_))))))))))
              refine ⟨?_, O⟩; unfold loM; first | rw [if_pos (by omega)] | rw [if_neg (by omega)]
      · (try simp only [Z] at h6)
        try (exfalso; first | contradiction | omega)
        all_goals
          refine bK (bK (bF (iH O O (bF (bW O (bK (bK (bF (iH O O (iH O O (iR (oL (gy (bI O (fP O (dL sQ O ?_))))))))))))))))
          refine ⟨?_, O⟩; unfold loM; first | rw [if_pos (by omega)] | rw [if_neg (by omega)]
theorem ad3 (h : s.rD s.c.pt j l = 0) : s.tnR j l x = ((s.nR s.c.pt j l).DL x, (s.nR s.c.pt j l).wK x) := if_pos h
theorem ad4 (h : ¬ s.rD s.c.pt j l = 0) : s.tnR j l x = (s.rD s.c.pt j l, s.nR s.c.pt j l) := if_neg h
theorem aaF (h : name.toList = vw.toList) (h2 : (s.c.L.length : Int) - s.c.pt < n) : s.Lj name keys n = (6, s) := (if_pos h).trans (if_pos h2)
theorem Vb (h : name.toList = vw.toList) (h2 : ¬ (s.c.L.length : Int) - s.c.pt < n) : s.Lj name keys n = s.tnR (s.Rw n) (List.replicate n.toNat (keys.getD 1 0)) (s.Rw n - 1) := (if_pos h).trans (if_neg h2)
theorem aaG (h : ¬ name.toList = vw.toList) (h2 : s.c.pt = s.c.L.length) : s.Lj name keys n = (6, s) := (if_neg h).trans (if_pos h2)
theorem Vd (h : ¬ name.toList = vw.toList) (h2 : ¬ s.c.pt = s.c.L.length) : s.Lj name keys n = s.tnR (s.Rw n) (((s.c.L.drop s.c.pt.toNat).take ((s.Rw n).toNat - s.c.pt.toNat)).map swp) (s.Rw n) := (if_neg h).trans (if_neg h2)
theorem abU (H : V w0 w (VC c m e name kv n g lv s.c.pt • je 21 .i32 lv s.c.L • dZ e s • F)) (hk : jO w0 F .i32 kv keys) (hk2 : name.toList = vw.toList → 2 ≤ keys.length) (hn : 1 ≤ n ∧ n ≤ 1000000) :
  jf prog 166 #[.pointer (some ⟨c, 0, none⟩)] w fun v w' => v = .int .i64 (s.Lj name keys n).1 ∧ V w0 w' (VC c m e name kv n g lv s.c.pt • je 21 .i32 lv s.c.L • dZ e (s.Lj name keys n).2 • F) := by
 obtain ⟨hln, hpt⟩ := xH H.f3
 refine jE func166 ntmps166 ?_
 refine kH O (aI ?_)
 have L8 := H.drew
 have kS := V.kp (L8.f3.f3.f3)
 refine nG [3, 7, 11, 16] kS O (fD 0 O kS O (iG 1 O kS O (dJ 2 O kS 7 aB O aj O (fM 3 O kS (fun W hW => fQ aA O ((Kp.h hW)).get.2 O) (fD 4 O kS O (iG 5 O kS O (dJ 6 O kS 4 aB O aj O (fM 7 O kS (fun W hW => fQ aA O ((Kp.h hW)).get.2 O) (fD 8 O kS O (iG 9 O kS O (dJ 10 O kS 6 aB O bD O (fM 11 O kS (fun W hW => fQ ah O ((Kp.h hW)).get.2 O) (dS 12 O kS (fun _ => gZ ((L8.f2).aO) ah O) (fD 13 O kS O (iG 14 O kS O (dJ 15 O kS 7 aB O aj O (fM 16 O kS (fun W hW => fQ aA O ((Kp.h hW)).get.2 O) (dS 17 O kS (fun _ => jJ O O (by omega)) (dS 18 O kS (fun _ => mW O O) (dS 19 O kS (fun _ => fH O O (by omega)) (dS 20 O kS (fun _ => aW O) (lJ (aU (kH O (aI (bI O (dV O (bM 2 aB O kM O (eH iD O (L8).get.2 O (aV (eP O O) (iW O (fun h1 => ?_) (fun h1 => ?_))))))))))))))))))))))))))))))))
 ·(try simp only [Z] at h1)
  have hnm : name.toList = vw.toList := h1
  have hk3 := hk2 hnm
  refine aI (aI ?_)
  have af9 := L8.drew
  have BQ := V.kp (af9.f3.f3.f3)
  refine nG [3, 8, 13] BQ O (fD 0 O BQ O (iG 1 O BQ O (dJ 2 O BQ 6 aB O bD O (fM 3 O BQ (fun W hW => fQ ah O ((Kp.h hW)).get.2 O) (dS 4 O BQ (fun _ => gZ ((af9.f2).aO) ah O) (fD 5 O BQ O (iG 6 O BQ O (dJ 7 O BQ 7 aB O aj O (fM 8 O BQ (fun W hW => fQ aA O ((Kp.h hW)).get.2 O) (dS 9 O BQ (fun _ => jJ O O (by omega)) (fD 10 O BQ O (iG 11 O BQ O (dJ 12 O BQ 4 aB O aj O (fM 13 O BQ (fun W hW => fQ aA O ((Kp.h hW)).get.2 O) (dS 14 O BQ (fun _ => gG O O) (lJ (aU (bg O (fun h2 => ?_) (fun h2 => ?_)))))))))))))))))))
  ·(try simp only [Z] at h2)
   refine jS O (aC (aC (dL results166 O ?_)))
   have e9 := aaF (keys := keys) hnm (by omega)
   exact ⟨by rw [e9], by rw [e9]; exact af9.f3.f3.f3⟩
  ·(try simp only [Z] at h2)
   refine gy (aI ?_)
   have aiq := af9.drew
   have Ir := V.kp (aiq.f3.f3.f3)
   refine nG [3, 5, 10] Ir O (fD 0 O Ir O (iG 1 O Ir O (dJ 2 O Ir 3 aB O bD O (fM 3 O Ir (fun W hW => fQ ah O ((Kp.h hW)).get.2 O) ?_))))
   obtain ⟨Xx, Xy, Xz, ekv⟩ := gB.qN (hk _ (aiq.right.right.right)) (by omega)
   cases ekv
   refine dS 4 O Ir (fun _ => dI ah bP O O (by omega)) ?_
   refine fM 5 O Ir (fun W hW => dW (bV bC O) O (by first | exact gB.lN (hk _ ((Kp.h hW).right.right.right)) (by omega) | exact gB.uP (hk _ ((Kp.h hW).right.right.right)) (by omega) | exact gB.wO (hk _ ((Kp.h hW).right.right.right)) (by omega))) ?_
   refine fD 7 O Ir O (iG 8 O Ir O (dJ 9 O Ir 4 aB O aj O (fM 10 O Ir (fun W hW => fQ aA O ((Kp.h hW)).get.2 O) (ny 6 O (nN (k := .i32) (l := [_]) aiq ah bP lW O O O (by decide)) ?_))))
   rintro l1 w1 H1
   have aga := V.kp (H1.f4.f4.f4.f4)
   refine dK aga (fun W hW => (Kp.h hW).right.f3.f3.f3) ?_
   refine ny 11 O (wM O func187 (af7 (l := [keys.getD 1 0]) H1 (fun W HW => (HW).aO) (by omega) (by simp; omega))) ?_
   rintro u2 w2 ⟨rr2, hrl2, alp, H2⟩
   obtain rfl := af8 hrl2 alp
   have zB := V.kp (H2.f5.f5.f5.f5.f5)
   refine gU zB (by kernel_rfl) ?_
   refine dS 12 O zB (fun _ => aW O) (lJ (aU (aI (aI ?_))))
   have ajU := H2.drew
   have Iu := V.kp (ajU.f5.f5.f5.f5.f5)
   refine nG [3, 7] Iu O (fD 0 O Iu O (iG 1 O Iu O (dJ 2 O Iu 1 aB O fA O (fM 3 O Iu (fun W hW => fQ bY O ((Kp.h hW).f3).get.2 O) (fD 4 O Iu O (iG 5 O Iu O (dJ 6 O Iu 7 aB O aj O (fM 7 O Iu (fun W hW => fQ aA O ((Kp.h hW).f3).get.2 O) (fD 8 O Iu O (fD 9 O Iu O (ny 10 O (wM O func188 (uJ ajU.f5 (fun W HW => (HW).aO))) ?_)))))))))))
   rintro _ w3 ⟨rfl, H3⟩
   have uQ := V.kp (H3.f5.f5.f5.f5.f5)
   refine gU uQ (by kernel_rfl) ?_
   refine dS 11 O uQ (fun _ => aW O) (lJ (aU (bI O (aV (fF O O) (iW O (fun h3 => ?_) (fun h3 => ?_))))))
   ·(try simp only [Z] at h3)
    have hz := h3
    refine bI O (fP O (aC (aC (dL results166 O ?_))))
    have e9 := (Vb (s := s) (n := n) (keys := keys) hnm (by omega)).trans (ad4 hz)
    exact ⟨by rw [e9]; rfl, by rw [e9]; exact H3.f2.right.f2.right.f3.f3⟩
   ·(try simp only [Z] at h3)
    have hz := h3
    refine gy (bI O (dV O (bM 1 aB O fA O (eH bY O (H3.f4).get.2 O (bW O (aV (jJ O O (by omega)) (dX O func30 (kD H3) ?_)))))))
    rintro _ w4 ⟨rfl, H4⟩
    refine fP O (aC (dL results166 O ?_))
    have e9 := (Vb (s := s) (n := n) (keys := keys) hnm (by omega)).trans (ad3 hz)
    exact ⟨by rw [e9]; rfl, by rw [e9]; exact H4.f2.right.f2.right.f3.f3⟩
 ·(try simp only [Z] at h1)
  have hnm : ¬ name.toList = vw.toList := h1
  refine gy (aI (aI ?_))
  have aaH := L8.drew
  have D6 := V.kp (aaH.f3.f3.f3)
  refine nG [3, 7] D6 O (fD 0 O D6 O (iG 1 O D6 O (dJ 2 O D6 7 aB O aj O (fM 3 O D6 (fun W hW => fQ aA O ((Kp.h hW)).get.2 O) (fD 4 O D6 O (iG 5 O D6 O (dJ 6 O D6 6 aB O bD O (fM 7 O D6 (fun W hW => fQ ah O ((Kp.h hW)).get.2 O) (dS 8 O D6 (fun _ => gZ ((aaH.f2).aO) ah O) (dS 9 O D6 (fun _ => fB O O) (lJ (aU (bg O (fun h4 => ?_) (fun h4 => ?_))))))))))))))
  ·(try simp only [Z] at h4)
   refine jS O (aC (dL results166 O ?_))
   have e9 := aaG (keys := keys) (n := n) hnm (by omega)
   exact ⟨by rw [e9], by rw [e9]; exact aaH.f3.f3.f3⟩
  ·(try simp only [Z] at h4)
   refine gy (aI (aI ?_))
   have XC := aaH.drew
   have Am := V.kp (XC.f3.f3.f3)
   refine nG [3, 7] Am O (fD 0 O Am O (iG 1 O Am O (dJ 2 O Am 6 aB O bD O (fM 3 O Am (fun W hW => fQ ah O ((Kp.h hW)).get.2 O) (fD 4 O Am O (iG 5 O Am O (dJ 6 O Am 7 aB O aj O (fM 7 O Am (fun W hW => fQ aA O ((Kp.h hW)).get.2 O) (fD 8 O Am O (dS 9 O Am (fun _ => pF ((XC.f2).aO) ah bP O O O (by omega)) ?_))))))))))
   refine dS 10 O Am (fun _ => gZ (gB.cut ((XC.f2).aO) (by omega) (by omega)) ah O) (fD 11 O Am O (lJ (aU (bf ?_))))
   obtain ⟨az, cz, ez, -⟩ := gB.open (gB.cut (i := s.c.pt.toNat) (j := (s.c.pt + min n ((s.c.L.length : Int) - s.c.pt)).toNat) (XC.f2).aO (by omega) (by omega))
   rw [ez]
   have hzr : ∀ (W : World) (G : HP), V w0 W (je 21 .i32 lv s.c.L • G) → gB W .i32 (.slice az ((s.c.L.drop s.c.pt.toNat).take ((s.c.pt + min n ((s.c.L.length : Int) - s.c.pt)).toNat - s.c.pt.toNat)).length cz) ((s.c.L.drop s.c.pt.toNat).take ((s.c.pt + min n ((s.c.L.length : Int) - s.c.pt)).toNat - s.c.pt.toNat)) := fun W G HW => by rw [← ez]; exact gB.cut HW.aO (by omega) (by omega)
   obtain ⟨sl, hsl⟩ : ∃ sl, sl = (s.c.L.drop s.c.pt.toNat).take ((s.c.pt + min n ((s.c.L.length : Int) - s.c.pt)).toNat - s.c.pt.toNat) := ⟨_, rfl⟩
   have hsq : ((s.c.L.drop s.c.pt.toNat).take ((s.c.pt + min n ((s.c.L.length : Int) - s.c.pt)).toNat - s.c.pt.toNat)).length = sl.length := by rw [hsl]
   have amC : sl.length = (s.c.pt + min n ((s.c.L.length : Int) - s.c.pt)).toNat - s.c.pt.toNat := by rw [hsl]; simp; omega
   refine iy [(0, _), (3, _), (102, _), (103, _)] (fun (⟨u, i⟩ : Value × Nat) => [(4, u), (104, .int .i64 (i : Int))]) (fun (⟨u, i⟩ : Value × Nat) W => i ≤ sl.length ∧ V w0 W (je 21 .i32 u ((sl.take i).map swp) • VC c m e name kv n g lv s.c.pt • je 21 .i32 lv s.c.L • dZ e s • F)) (fun (⟨u, i⟩ : Value × Nat) => sl.length - i) ((.slice none 0 0, 0)) FC sG ⟨by omega, (XC.f3.f3.f3).kF none⟩ ?_
   rintro ⟨u, i⟩ w5 ⟨hi, HL⟩
   dsimp only [List.cons_append, List.nil_append]
   refine jg (aV (gG O O) (rW (bg O (fun h5 => ?_) (fun h5 => ?_))))
   ·(try simp only [Z] at h5)
    refine gy (aI (bf (jg ?_)))
    obtain ⟨bz, oz, rfl⟩ := gB.pos (hzr _ _ (HL.f3)) (by omega)
    refine aV (dI ah bP O O (by omega)) ?_
    refine aV (dW (bV bC O) O (by first | exact gB.lN (hzr _ _ (HL.f3)) (by omega) | exact gB.uP (hzr _ _ (HL.f3)) (by omega) | exact gB.wO (hzr _ _ (HL.f3)) (by omega))) ?_
    refine fO O (bI O (dX O func189 (aio) ?_))
    rintro _ _ ⟨rfl, rfl⟩
    refine fO O (bI O (bW O (aV (fF O O) (iW O (fun h6 => ?_) (fun h6 => ?_)))))
    ·(try simp only [Z] at h6)
     refine aF (jU O O (kV (nN (k := .i32) (l := [_]) HL ah bP lW O O O (by decide)) ?_))
     rintro l7 w7 H7
     refine kV (nH H7.f2 ((H7).aO) ah XD O O (by first | omega | (simp only [List.length_append, List.length_nil, List.length_cons]; omega) | (simp; omega)) (by first | omega | (simp only [List.length_append, List.length_nil, List.length_cons]; omega) | (simp; omega))) ?_
     rintro l8 w8 H8
     try simp only [List.nil_append] at H8
     refine gW O (bT (aH (aU (aF (aV (fH O O (by omega)) (bW O (bT ?_)))))))
     refine dN (_, _) sG FC (by (try dsimp only); exact ⟨by omega, (by have HX := H8.f2.right.f4.f4.f4.f4; (first | rw [Lh (by omega), ag0 (by rw [hsl]; assumption)] | rw [Lh (by omega), agZ (by rw [hsl]; assumption)]); rw [hsl] at HX ⊢; exact HX)⟩) ?_
     ·(try dsimp only); omega
    ·(try simp only [Z] at h6)
     refine aF (jU O O (dX O func190 (aip) ?_))
     rintro _ _ ⟨rfl, rfl⟩
     refine kV (nN (k := .i32) (l := [_]) HL ah bP lW O O O (by decide)) ?_
     rintro l10 w10 pG
     refine kV (nH pG.f2 ((pG).aO) ah XD O O (by first | omega | (simp only [List.length_append, List.length_nil, List.length_cons]; omega) | (simp; omega)) (by first | omega | (simp only [List.length_append, List.length_nil, List.length_cons]; omega) | (simp; omega))) ?_
     rintro l11 FK ru
     try simp only [List.nil_append] at ru
     refine gW O (bT (aH (aU (aF (aV (fH O O (by omega)) (bW O (bT ?_)))))))
     refine dN (_, _) sG FC (by (try dsimp only); exact ⟨by omega, (by have HX := ru.f2.right.f4.f4.f4.f4; (first | rw [Lh (by omega), ag0 (by rw [hsl]; assumption)] | rw [Lh (by omega), agZ (by rw [hsl]; assumption)]); rw [hsl] at HX ⊢; exact HX)⟩) ?_
     ·(try dsimp only); omega
   ·(try simp only [Z] at h5)
    refine dR (aP (aP (bH (aU (aI (aI ?_))))))
    obtain rfl : i = sl.length := by omega
    have HX := HL
    rw [List.take_length] at HX
    have ad5 := HX.drew
    have zN := V.kp (ad5.f4.f4.f4.f4)
    refine nG [3, 7] zN O (fD 0 O zN O (iG 1 O zN O (dJ 2 O zN 1 aB O fA O (fM 3 O zN (fun W hW => fQ bY O ((Kp.h hW).f2).get.2 O) (fD 4 O zN O (iG 5 O zN O (dJ 6 O zN 7 aB O aj O (fM 7 O zN (fun W hW => fQ aA O ((Kp.h hW).f2).get.2 O) (fD 8 O zN O (fD 9 O zN O (ny 10 O (wM O func188 (uJ ad5.f4 (fun W HW => (HW).aO))) ?_)))))))))))
    rintro _ w12 ⟨rfl, wQ⟩
    have Gn := V.kp (wQ.f4.f4.f4.f4)
    refine gU Gn (by kernel_rfl) ?_
    refine dS 11 O Gn (fun _ => aW O) (lJ (aU (bI O (aV (fF O O) (iW O (fun h7 => ?_) (fun h7 => ?_))))))
    ·(try simp only [Z] at h7)
     have hzz := h7
     refine bI O (fP O (aC (dL results166 O ?_)))
     have e9 := (show s.Lj name keys n = s.tnR (s.c.pt + min n ((s.c.L.length : Int) - s.c.pt)) (sl.map swp) (s.c.pt + min n ((s.c.L.length : Int) - s.c.pt)) from hsl ▸ Vd hnm (by omega)).trans (ad4 hzz)
     exact ⟨by rw [e9], by rw [e9]; exact wQ.f2.right.f3.f3⟩
    ·(try simp only [Z] at h7)
     have hzz := h7
     refine gy (bI O (dV O (bM 1 aB O fA O (eH bY O (wQ.f3).get.2 O (bW O (dX O func30 (kD wQ) ?_))))))
     rintro _ OL ⟨rfl, wB⟩
     refine fP O (dL results166 O ?_)
     have e9 := (show s.Lj name keys n = s.tnR (s.c.pt + min n ((s.c.L.length : Int) - s.c.pt)) (sl.map swp) (s.c.pt + min n ((s.c.L.length : Int) - s.c.pt)) from hsl ▸ Vd hnm (by omega)).trans (ad3 hzz)
     exact ⟨by rw [e9], by rw [e9]; exact wB.f2.right.f3.f3⟩
end
end Go.Proofs.YtpdeedplgmbopaaGreatDoor
end
section
namespace Go.Proofs.YtpdeedplgmbopaaGreatDoor
open Go.RowKit
section
variable {s t u : bQ}
theorem agb (s : bQ) (x : jL) : Fr s (s.vJ x) := by
  unfold bQ.vJ; split
  · exact Fr.refl s
  · split <;> exact ⟨rfl, rfl, rfl, rfl⟩
theorem Eu (s : bQ) (i j : Int) (l : List Int) : Fr s (s.nR i j l) := by
  unfold bQ.nR; split
  · have h := agb (s.pR (nY s.c.L i j l) (wH s.c.L s.c.pt i j l) (yc s.c.L s.c.mark i j l)) (xK s.c.L i j l, qB s.c.L i j l, qC s.c.L i j l)
    exact ⟨h.inn, h.was, h.hl, h.lI⟩
  · exact Fr.refl s
theorem Ll (s : bQ) (i j : Int) (b : Bool) : Fr s (s.yu i j b) := by unfold bQ.yu; split <;> exact ⟨rfl, rfl, rfl, rfl⟩
theorem aaI (s : bQ) (i j : Int) (b : Bool) : Fr s (s.zG i j b) := by
  unfold bQ.zG; split
  · exact (Ll s i j b).trans (Eu _ _ _ _)
  · exact Fr.refl s
theorem Ve (s : bQ) : Fr s s.oI := by
  unfold bQ.oI; split
  · have h := Eu s s.c.pt s.c.pt s.top
    exact ⟨h.inn, h.was, h.hl, h.lI⟩
  · exact Fr.refl s
theorem XE (s : bQ) (on : Bool) : Fr s (s.eX on) := by unfold bQ.eX; split <;> exact ⟨rfl, rfl, rfl, rfl⟩
theorem Om (s : bQ) : Fr s s.vK := by
  unfold bQ.vK; split
  · have h := XE s false
    dsimp only
    split <;> exact ⟨h.inn, h.was, h.hl, h.lI⟩
  · exact Fr.refl s
theorem air (s : bQ) : Fr s s.NS := by
  unfold bQ.NS; split
  · have h := XE s false
    dsimp only
    split <;> exact ⟨h.inn, h.was, h.hl, h.lI⟩
  · exact Fr.refl s
theorem qI (s : bQ) (x : Int) : Fr s (s.wK x) := by unfold bQ.wK; split <;> exact ⟨rfl, rfl, rfl, rfl⟩
theorem Oo (s : bQ) (b : Bool) : Fr s (s.Pj b) := by unfold bQ.Pj; split <;> exact ⟨rfl, rfl, rfl, rfl⟩
theorem zO (s : bQ) (x : Int) : Fr s (s.zH x) := by unfold bQ.zH; split <;> exact ⟨rfl, rfl, rfl, rfl⟩
theorem XF (s : bQ) (x : Int) : Fr s (s.FX x) := by unfold bQ.FX; split <;> exact ⟨rfl, rfl, rfl, rfl⟩
theorem xW (s : bQ) (i j : Int) : Fr s (s.Zt i j) := by
  unfold bQ.Zt; split
  · exact Fr.refl s
  · split
    · exact (aaI _ _ _ _).trans (qI _ _)
    · exact aaI _ _ _ _
theorem aaJ (a : Int) : ∀ (k : Nat) (s : bQ), Fr s (bQ.NZ a k s).2
  | 0, s => qI _ _
  | k + 1, s => by
    by_cases h : s.xg = 0
    · by_cases h2 : s.oI.c.pt = a
      · rw [adY (by omega) h h2]; exact Ve s
      · rw [adZ h h2]; exact (Ve s).trans (aaJ a k _)
    · rw [adX (by omega) h]; exact Ve s
theorem ais (s : bQ) (keys : List Int) (n : Int) : Fr s (s.adU keys n).2 := by
  have hm : Fr s (s.Ig keys).2 := by
    by_cases h : s.Zu keys
    · rw [Qr h]; exact qI _ _
    · rw [JX h]; exact Fr.refl s
  by_cases h : (s.Ig keys).1 = 0
  · rw [adV h]; exact hm.trans (aaJ _ _ _)
  · rw [adW h]; exact hm
theorem ag1 (s : bQ) (j : Int) (l : List Int) (x : Int) : Fr s (s.tnR j l x).2 := by
  by_cases h : s.rD s.c.pt j l = 0
  · rw [ad3 h]; exact (Eu _ _ _ _).trans (qI _ _)
  · rw [ad4 h]; exact Eu _ _ _ _
theorem agc (s : bQ) (name : ByteArray) (keys : List Int) (n : Int) : Fr s (s.Lj name keys n).2 := by
  by_cases h : name.toList = vw.toList
  · by_cases h2 : (s.c.L.length : Int) - s.c.pt < n
    · rw [aaF h h2]; exact Fr.refl s
    · rw [Vb h h2]; exact ag1 _ _ _ _
  · by_cases h2 : s.c.pt = s.c.L.length
    · rw [aaG h h2]; exact Fr.refl s
    · rw [Vd h h2]; exact ag1 _ _ _ _
end
end Go.Proofs.YtpdeedplgmbopaaGreatDoor
end
section
namespace Go.Proofs.YtpdeedplgmbopaaGreatDoor
open Go.RowKit
open _root_.Go.Proofs.Tryz
def ajV : ByteArray := ⟨#[68, 67, 89]⟩
def agd : ByteArray := ⟨#[100, 99, 121]⟩
def rnM (n k : Int) : Int := if 0 < k then min (IntKind.i64.wrap (n * k)) 1000000 else n
namespace VM
variable (M : VM)
def ait (L : List Int) (p : Int) (T : Int × Bool × Bool) : Int × Int × Bool :=
  if ¬ T.2.2 = true then (0, 0, false) else if T.1 < p then (T.1, p, true) else (p, min (if T.2.1 = true then IntKind.i64.wrap (T.1 + 1) else T.1) L.length, true)
def reach (L : List Int) (p : Int) (keys : List Int) (n : Int) : Int × Int × Bool :=
  if keys.getD 0 0 ∈ EN ajV then (p, L.length, true)
  else if 0 < (mP (keys.drop 1)).length ∧ (mP (keys.drop 1)).getD 0 0 = keys.getD 0 0 ∧ keys.getD 0 0 ∈ EN agd then (0, L.length, true)
  else if (mP (keys.drop 1)).length = 0 ∨ ¬ keys.getD 0 0 ∈ EN agd then (0, 0, false)
  else ait L p (M.tgt L p (mP (keys.drop 1)) (rnM n (abG (keys.drop 1))))
def alq (L : List Int) (p : Int) (keys : List Int) (n : Int) : VM :=
  if keys.getD 0 0 ∈ EN ajV then M
  else if 0 < (mP (keys.drop 1)).length ∧ (mP (keys.drop 1)).getD 0 0 = keys.getD 0 0 ∧ keys.getD 0 0 ∈ EN agd then M
  else if (mP (keys.drop 1)).length = 0 ∨ ¬ keys.getD 0 0 ∈ EN agd then M
  else M.sought L p (mP (keys.drop 1)) (rnM n (abG (keys.drop 1)))
end VM
def amD (r : Int × Int × Bool) : Value := .tuple #[.int .i64 r.1, .int .i64 r.2.1, .bool r.2.2]
section
variable {w0 w : World} {F : HP} {c m e : Nat} {s t : bQ} {name : ByteArray} {kv lv : Value} {n p i j q a r x : Int} {g : Bool} {keys l L : List Int} {k : Nat} {k0 : Int} {M : VM} {T : Int × Bool × Bool}
theorem aiu (h : n ≤ 1000000) : rnM n k0 ≤ 1000000 := by unfold rnM; split <;> omega
theorem XG {X : HP} {v : Value} (H : V w0 w (X • F)) (hr : jO w0 F .i32 v l) : jf prog 51 #[v] w fun u w' => ∃ kv, u = .tuple #[kv, .int .i64 (abG l)] ∧ jO w0 F .i32 kv (mP l) ∧ V w0 w' (X • F) := by
 have hl9 : l.length ≤ 9223372036854775807 := by have := (hr _ H.right).open; obtain ⟨a, c, e, h3, h4, _⟩ := this; omega
 have hcl := adD (l := l)
 refine jE func51 ntmps51 ?_
 refine jg (gW O (fO O (jg (gW O (tX O (bf ?_))))))
 refine iy [(0, _)] (fun (⟨i, n⟩ : Nat × Int) => [(4, .int .i64 n), (5, .int .i64 (i : Int))]) (fun (⟨i, n⟩ : Nat × Int) W => (i ≤ (xU l).length ∧ (0 ≤ n ∧ n ≤ 1000000) ∧ n = ((xU l).take i).foldl KX 0) ∧ V w0 W (X • F)) (fun (⟨i, n⟩ : Nat × Int) => (xU l).length - i) ((0, 0)) lH sG ⟨⟨by omega, by omega, O⟩, H⟩ ?_
 rintro ⟨i, n⟩ w1 ⟨⟨hi, hn, hE⟩, HL⟩
 dsimp only [List.cons_append, List.nil_append]
 have hca := adC (l := l) hi
 refine aI (bI O (bW O (aV (gZ (hr _ (HL.right)) ah O) (aV (gG O O) (jY O (fun h1 => ?_) (fun h1 => ?_))))))
 ·(try simp only [Z] at h1)
  refine bF (bW O (bF (bW O (bF ?_))))
  obtain ⟨bv, ov, cv, ev⟩ := gB.qN (hr _ (HL.right)) (by omega)
  cases ev
  refine aV (dI ah bP O O (by omega)) (bF ?_)
  refine aV (dW (bV bC O) O (by first | exact gB.lN (hr _ (HL.right)) (by omega) | exact gB.uP (hr _ (HL.right)) (by omega) | exact gB.wO (hr _ (HL.right)) (by omega))) ?_
  refine bF (aV (mJ O O) (jQ O O (jY O (fun h2 => ?_) (fun h2 => ?_))))
  ·(try simp only [Z] at h2)
   refine bF (bW O (bF (bW O (bF (aV (dI ah bP O O (by omega)) (bF ?_))))))
   refine aV (dW (bV bC O) O (by first | exact gB.lN (hr _ (HL.right)) (by omega) | exact gB.uP (hr _ (HL.right)) (by omega) | exact gB.wO (hr _ (HL.right)) (by omega))) ?_
   refine bF (aV (rQ O O) (jQ O O (jY O (fun h3 => ?_) (fun h3 => ?_))))
   ·(try simp only [Z] at h3)
    refine bF (bW O (bF (aV (gK O O) (bF (jY O (fun h4 => ?_) (fun h4 => ?_))))))
    ·(try simp only [Z] at h4)
     refine bK (bK (bK (bK (bK (bF (jQ O O (jQ O O (iR (ET (gy (bf (aI ?_))))))))))))
     have hlt : i < (xU l).length := by omega
     refine aF (bW O (aV (Vu O O (by omega)) (jU O O (aV (dI ah bP O O (by omega)) ?_))))
     refine aV (dW (bV bC O) O (by first | exact gB.lN (hr _ (HL.right)) (by omega) | exact gB.uP (hr _ (HL.right)) (by omega) | exact gB.wO (hr _ (HL.right)) (by omega))) ?_
     refine aV (NG (Bo O O) (congrArg (Value.int .i32) (Ej (by omega)))) ?_
     refine aV (sV O (by rw [underlying21]; rfl) aA (IY (by omega))) ?_
     refine aV (fH O O (by omega)) (aV (mW O O) (fO O (aF (bW O (aV (fH O O (by omega)) (gW O (bT (aH ?_))))))))
     refine dN ((i + 1, KX n (l.getD i 0))) ?_ ?_ ?_ ?_
     ·exact sG
     ·exact lH
     ·(try dsimp only)
      first | done | exact ⟨⟨by omega, Oh hn (by omega), by rw [KY hlt, ← hE]⟩, HL⟩
     ·(try dsimp only); omega
    ·(try simp only [Z] at h4)
     refine bF (bW O (bF (bW O (bF (aV (dI ah bP O O (by omega)) (bF ?_))))))
     refine aV (dW (bV bC O) O (by first | exact gB.lN (hr _ (HL.right)) (by omega) | exact gB.uP (hr _ (HL.right)) (by omega) | exact gB.wO (hr _ (HL.right)) (by omega))) ?_
     refine bF (aV (fF O O) (bF (iH O O (jQ O O (iW O (fun h5 => ?_) (fun h5 => ?_))))))
     ·(try simp only [Z] at h5)
      refine gy (bf (aI ?_))
      have hlt : i < (xU l).length := by omega
      refine aF (bW O (aV (Vu O O (by omega)) (jU O O (aV (dI ah bP O O (by omega)) ?_))))
      refine aV (dW (bV bC O) O (by first | exact gB.lN (hr _ (HL.right)) (by omega) | exact gB.uP (hr _ (HL.right)) (by omega) | exact gB.wO (hr _ (HL.right)) (by omega))) ?_
      refine aV (NG (Bo O O) (congrArg (Value.int .i32) (Ej (by omega)))) ?_
      refine aV (sV O (by rw [underlying21]; rfl) aA (IY (by omega))) ?_
      refine aV (fH O O (by omega)) (aV (mW O O) (fO O (aF (bW O (aV (fH O O (by omega)) (gW O (bT (aH ?_))))))))
      refine dN ((i + 1, KX n (l.getD i 0))) ?_ ?_ ?_ ?_
      ·exact sG
      ·exact lH
      ·(try dsimp only)
       first | done | exact ⟨⟨by omega, Oh hn (by omega), by rw [KY hlt, ← hE]⟩, HL⟩
      ·(try dsimp only); omega
     ·(try simp only [Z] at h5)
      refine dR (aP (aP (bH (aU (aI ?_)))))
      have hlt : i = (xU l).length := by omega
      refine aF (jU O O (aV (pF (hr _ (HL.right)) ah bP O O O (by omega)) ?_))
      refine bW O (gW O (fP O (MO results51 O O ?_)))
      exact ⟨_, by rw [hE, hlt, Eo], fun W HW => by unfold mP; rw [← hlt]; exact (hr W HW).from (by omega), HL⟩
   ·(try simp only [Z] at h3)
    refine bK (bK (bK (ni (ni (ni (ni (ni (bK (iH O O (iR (oL (dR (aP (aP (bH (aU (aI ?_)))))))))))))))))
    have hlt : i = (xU l).length := by omega
    refine aF (jU O O (aV (pF (hr _ (HL.right)) ah bP O O O (by omega)) ?_))
    refine bW O (gW O (fP O (MO results51 O O ?_)))
    exact ⟨_, by rw [hE, hlt, Eo], fun W HW => by unfold mP; rw [← hlt]; exact (hr W HW).from (by omega), HL⟩
  ·(try simp only [Z] at h2)
   refine bK (bK (bK (bK (bK (iH O O (bW O (bK (bK (bK (ni (ni (ni (ni (ni (bK (iH O O (iR (oL (dR (aP (aP (bH (aU (aI ?_))))))))))))))))))))))))
   have hlt : i = (xU l).length := by omega
   refine aF (jU O O (aV (pF (hr _ (HL.right)) ah bP O O O (by omega)) ?_))
   refine bW O (gW O (fP O (MO results51 O O ?_)))
   exact ⟨_, by rw [hE, hlt, Eo], fun W HW => by unfold mP; rw [← hlt]; exact (hr W HW).from (by omega), HL⟩
 ·(try simp only [Z] at h1)
  refine bK (bK (bK (bK (bK (iH O O (bW O (bK (bK (bK (bK (bK (iH O O (bW O (bK (bK (bK (ni (ni (ni (ni (ni (bK (iH O O (iR (oL (dR (aP (aP (bH (aU (aI ?_)))))))))))))))))))))))))))))))
  have hlt : i = (xU l).length := by omega
  refine aF (jU O O (aV (pF (hr _ (HL.right)) ah bP O O O (by omega)) ?_))
  refine bW O (gW O (fP O (MO results51 O O ?_)))
  exact ⟨_, by rw [hE, hlt, Eo], fun W HW => by unfold mP; rw [← hlt]; exact (hr W HW).from (by omega), HL⟩
end
end Go.Proofs.YtpdeedplgmbopaaGreatDoor
end
