import Derived.Test.YtpdeedplgmbopaaGreatDoorZ4
import Derived.Test.YtpdeedplgmbopaaGreatDoorZ14
import Derived.Test.YtpdeedplgmbopaaGreatDoorZ5
import Derived.Shelf.Bits.Mul64
import Derived.Test.YtpdeedplgmbopaaGreatDoorZ19
import Derived.Test.YtpdeedplgmbopaaGreatDoorZ11
import Derived.Test.YtpdeedplgmbopaaGreatDoorZ15
set_option linter.unusedSimpArgs false
set_option linter.unusedVariables false
/- Texts of mine, joined, their names in short: Rep Rep2 VTurn VFr. -/
section
namespace Go.Proofs.YtpdeedplgmbopaaGreatDoor
open Go.RowKit
open _root_.Go.Proofs.Tryz
section
variable {P : Program} {L : List (Nat × Value)} {w : World} {ty t t' src dst : TypeId} {x y : Operand} {m n p : Int}
theorem abW (h : 0 ≤ m ∧ m < 4294967296) (hx : ev L x = some (.int .u64 m)) (hy : ev L y = some (.int .u64 4294967295)) : Val P L (.binOp .and t x y t') ty w (.int .u64 m) w := by
  have := Yh (P := P) (w := w) (ty := ty) (t := t) (t' := t') .and hx hy (.inl rfl)
  obtain ⟨k, rfl⟩ : ∃ k : Nat, m = k := ⟨m.toNat, by omega⟩
  rwa [Mul64.maskN k (by omega), show k % 4294967296 = k from by omega] at this
theorem UO (h : 0 ≤ m ∧ m < 4294967296) (hx : ev L x = some (.int .u64 m)) (hy : ev L y = some (.int .u64 32)) : Val P L (.binOp .shr t x y t') ty w (.int .u64 0) w := by
  have := ahd (P := P) (w := w) (ty := ty) (t := t) (t' := t') 32 4294967296 (by decide) (by decide) hx hy
  rwa [show m / 4294967296 = 0 from by omega] at this
theorem UQ (hp : m * n = p) (h : 0 ≤ p ∧ p < 18446744073709551616) (hx : ev L x = some (.int .u64 m)) (hy : ev L y = some (.int .u64 n)) : Val P L (.binOp .mul t x y t') ty w (.int .u64 p) w := by
  have := aag (P := P) (w := w) (ty := ty) (t := t) (t' := t') hx hy
  rwa [hp, IntKind.wrap_u64, show p % 18446744073709551616 = p from by omega] at this
theorem Yr (hp : m + n = p) (h : 0 ≤ p ∧ p < 18446744073709551616) (hx : ev L x = some (.int .u64 m)) (hy : ev L y = some (.int .u64 n)) : Val P L (.binOp .add t x y t') ty w (.int .u64 p) w := by
  have := I8 (P := P) (w := w) (ty := ty) (t := t) (t' := t') hx hy
  rwa [hp, IntKind.wrap_u64, show p % 18446744073709551616 = p from by omega] at this
theorem u_conv (h : 0 ≤ m ∧ m < 9223372036854775808) (hx : ev L x = some (.int .i64 m)) (hs : (P.underlying src).isSome = true) (hd : P.underlying dst = some (.int .u64)) : Val P L (.convert src dst x) ty w (.int .u64 m) w :=
  sU hx hs hd (by rw [IntKind.wrap_u64]; omega)
theorem afH (h : 0 ≤ m ∧ m < 9223372036854775808) (hx : ev L x = some (.int .u64 m)) (hs : (P.underlying src).isSome = true) (hd : P.underlying dst = some (.int .i64)) : Val P L (.convert src dst x) ty w (.int .i64 m) w :=
  sU hx hs hd (by rw [IntKind.wrap_i64]; omega)
theorem NR {w0 : World} {F : HP} {t e ts : Nat} {k : IntKind} {v sv : Value} {l m : List Int} {i : Nat} (H : V w0 w (jw e k v l • F)) (hr : fJ w k sv m) (ht : P.underlying t = some (.slice e)) (hs : (P.info? e).map (·.size) = some 1)
    (hx : ev L x = some (sV 1 i l.length v)) (hy : ev L y = some sv) (hi : i ≤ l.length) :
    xU P L (.call ⟨.builtin .copy, #[x, y], #[t, ts]⟩) ty w fun v' w' => v' = .int .i64 ((min m.length (l.length - i) : Nat) : Int) ∧ V w0 w' (jw e k v (iq l i (m.take (l.length - i))) • F) := by
  have hlen := H.yw
  by_cases h0 : min m.length (l.length - i) = 0
  · have hm0 : m.take (l.length - i) = [] := List.eq_nil_of_length_eq_zero (by rw [List.length_take]; omega)
    obtain ⟨a, c, hv, _⟩ := (H.aP).form
    subst hv
    obtain ⟨a2, c2, rfl, _⟩ := hr.open
    refine vJ (v := .int .i64 0) (w' := w) (rU (vs := [sV 1 i l.length (.slice a l.length c), .slice a2 m.length c2]) (by simp [FV, hx, hy]) fun _ => ?_) ⟨by rw [h0]; rfl, by rw [hm0]; simpa [iq] using H⟩
    have := run_copy_none (P := P) w t ts ty e (DU a i c 1) a2 (l.length - i) (c - i) m.length c2 ht hs h0
    simp only [builtin, Sem.run_bind]
    rw [show sV 1 i l.length (.slice a l.length c) = .slice (DU a i c 1) (l.length - i) (c - i) from rfl]
    rw [this]
    rfl
  · obtain ⟨m', hm'⟩ : ∃ m', m' = m.take (l.length - i) := ⟨_, rfl⟩
    rw [← hm']
    have hml : m'.length = min m.length (l.length - i) := by rw [hm']; simp; omega
    rw [← hml]
    rcases H.uO with ⟨a, hv, hn, hxs, H1⟩ | ⟨g, o, c, cur, hv, h2, h3, h4, h5, H1⟩
    · omega
    subst hv
    obtain ⟨a2, c2, rfl, _, _, hc⟩ := hr.open
    obtain ⟨b, o2, rfl, hcell⟩ := hc (by omega)
    have hci : ¬ c = i := by omega
    have hd : sV 1 i l.length (.slice (some ⟨g, o, none⟩) l.length c) = .slice (some ⟨g, o + i, none⟩) (l.length - i) (c - i) := by simp [sV, DU, hci, vw]
    rw [hd] at hx
    have h : i + m'.length ≤ l.length := by omega
    have hrun := run_copy_row (P := P) w t ts ty e g (o + i) (l.length - i) (c - i) ⟨b, o2, none⟩ m.length c2 cur e (m'.map (Value.int k)) ht hs H1.get.2 (by rw [List.length_map, hml]) (fun j u hj => by
      have hj' : j < m'.length := by have := (List.getElem?_eq_some_iff.1 hj).1; simpa using this
      rw [vw, hcell j (by omega)]
      simp [hj'] at hj
      rw [← hj, List.getD_eq_getElem?_getD, List.getElem?_eq_getElem (by omega)]
      simp [hm']) (by simp; omega) (Hl _ _)
    refine vJ (v := .int .i64 m'.length) (w' := w.setRow g (cur.toList.take (o + i) ++ m'.map (Value.int k) ++ cur.toList.drop (o + i + (m'.map (Value.int k)).length)).toArray)
      (rU (vs := [.slice (some ⟨g, o + i, none⟩) (l.length - i) (c - i), .slice (some ⟨b, o2, none⟩) m.length c2]) (by simp [FV, hx, hy]) fun _ => ?_) ⟨rfl, ?_⟩
    · simp only [builtin, Sem.run_bind]
      rw [hrun]
      simp [goInt]
    · have HT := H1.turn (w' := w.setRow g (cur.toList.take (o + i) ++ m'.map (Value.int k) ++ cur.toList.drop (o + i + (m'.map (Value.int k)).length)).toArray) (o' := .cells (cur.toList.take (o + i) ++ m'.map (Value.int k) ++ cur.toList.drop (o + i + (m'.map (Value.int k)).length)).toArray e (0, 0)) rfl rfl rfl (by simp [World.setRow]) (setRow_heap _ _ _ _ _ _ H1.get.2) fun k hk _ => setRow_other _ _ _ _ hk
      have hsp : (iq l i m').length = l.length := fE h
      unfold jw
      rw [hsp]
      refine HT.Ai (by simp [hsp]) rfl h2 h3 (by simp; omega) fun j hj => ?_
      have hj' : j < l.length := by simpa using hj
      have h5' := h5 j hj
      simp only [List.getElem?_toArray, List.length_map]
      by_cases h6 : j < i
      · rw [List.append_assoc, List.getElem?_append_left (by simp; omega), List.getElem?_take_of_lt (by omega), Array.getElem?_toList, h5']
        simp only [List.getD_eq_getElem?_getD, List.getElem?_map]
        simp only [iq, List.append_assoc]
        rw [List.getElem?_append_left (by simp; omega), List.getElem?_take_of_lt h6]
      · by_cases h7 : j < i + m'.length
        · rw [List.getElem?_append_left (by simp; omega), List.getElem?_append_right (by simp; omega)]
          simp only [List.getD_eq_getElem?_getD, List.getElem?_map, iq]
          rw [List.getElem?_append_left (by simp; omega), List.getElem?_append_right (by simp; omega)]
          simp only [List.length_take, Array.length_toList, show min (o + i) cur.size = o + i from by omega, show min i l.length = i from by omega, show o + j - (o + i) = j - i from by omega]
          rw [List.getElem?_eq_getElem (by omega)]
          rfl
        · rw [List.getElem?_append_right (by simp; omega), List.getElem?_drop]
          simp only [List.getD_eq_getElem?_getD, List.getElem?_map, iq]
          rw [List.getElem?_append_right (by simp; omega), List.getElem?_drop]
          simp only [List.length_append, List.length_map, List.length_take, Array.length_toList, show min (o + i) cur.size = o + i from by omega, show min i l.length = i from by omega]
          rw [show o + i + m'.length + (o + j - (o + i + m'.length)) = o + j from by omega, Array.getElem?_toList, h5', show i + m'.length + (j - (i + m'.length)) = j from by omega]
          simp [List.getD_eq_getElem?_getD]
end
section
variable {w0 w : World} {F : HP} {v : Value} {l : List Int} {m n p : Int} {c : Nat}
theorem ZG (hm : 0 ≤ m ∧ m < 4294967296) (hn : 0 ≤ n ∧ n < 4294967296) (hp : m * n = p ∧ 0 ≤ p ∧ p < 4294967296) : iQ prog 213 #[.int .u64 m, .int .u64 n] w fun v w' => v = .tuple #[.int .u64 0, .int .u64 p] ∧ w = w' := by
  refine qc func213 ntmps213 ?_
  refine iy (gU O (dZ O (bM O (aQ (abW hm O O) (dZ O (bM O (aQ (UO hm O O) (dZ O (bM O (aQ (abW hn O O) (dZ O (bM O (aQ (UO hn O O) (dZ O (bM O (bJ O (aQ (UQ hp.1 (by omega) O O) (gU O ?_))))))))))))))))))
  refine sG O (bJ O (aQ (UQ (p := 0) (by omega) (by omega) O O) (bJ O (aQ (UO hp.2 O O) (aQ (Yr (p := 0) (by omega) (by omega) O O) (dZ O (bM O (aQ (abW (by omega) O O) (dZ O (bM O (aQ (UO (by omega) O O) (dZ O (bM O (jX O O (aQ (UQ (p := 0) (by omega) (by omega) O O) (aQ (Yr (p := 0) (by omega) (by omega) O O) (dZ O (bM O ?_))))))))))))))))))
  refine bJ O (aQ (UQ (p := 0) (by omega) (by omega) O O) (bJ O (aQ (Yr (p := 0) (by omega) (by omega) O O) (bJ O (aQ (UO (by omega) O O) (aQ (Yr (p := 0) (by omega) (by omega) O O) (dZ O (bM O (bJ O (aQ (UQ hp.1 (by omega) O O) (fA O (KP results213 O O ?_))))))))))))
  exact ⟨O, O⟩
theorem adx (H : V w0 w F) (hm : 0 ≤ m ∧ m < 4294967296) (hn : 0 ≤ n ∧ n < 4294967296) (hp : m * n = p ∧ 0 ≤ p ∧ p < 4294967296) : iQ prog 201 #[.int .u64 m, .int .u64 n] w fun v w' => v = .tuple #[.int .u64 0, .int .u64 p] ∧ V w0 w' F := by
  refine qc func201 ntmps201 ?_
  refine iy (gU O (uf O (oh (fV (bM O (bJ O (dS O func213 (ZG hm hn hp) ?_)))))))
  rintro _ _ ⟨rfl, rfl⟩
  refine bJ O (pW O O (pW O O (gU O (dZ O (bM O (bJ O (gU O (fA O (KP results201 O O ?_)))))))))
  exact ⟨O, H⟩
end
theorem ai2 {w0 w : World} {F : HP} {e : TypeId} {k : IntKind} {v : Value} {l : List Int} (H : V w0 w (jw e k v l • F)) : sV 1 0 l.length v = v := by
  obtain ⟨a, c, hv, _⟩ := (H.aP).form
  subst hv
  exact LJ _ _ _ _
theorem Xl {l xs : List Int} : iq xs 0 (l.take xs.length) = l.take xs.length ++ xs.drop (min l.length xs.length) := by
  unfold iq
  rw [List.take_zero, List.nil_append, Nat.zero_add, List.length_take, Nat.min_comm]
theorem Xm {l r xs : List Int} {j : Nat} (hj : j ≤ xs.length) (h : ∀ x ∈ xs.take j, x ∈ l) (hr : ∀ x ∈ r, x ∈ l) (hl : j + r.length ≤ xs.length) : ∀ x ∈ (iq xs j r).take (j + r.length), x ∈ l := by
  intro x hx
  unfold iq at hx
  rw [List.take_append_of_le_length (by simp; omega), List.take_of_length_le (by simp; omega)] at hx
  rcases List.mem_append.1 hx with hx | hx
  · exact h x hx
  · exact hr x hx
section
variable {w0 w : World} {F : HP} {v : Value} {l : List Int} {n : Int}
theorem ady (H : V w0 w F) (hr : jh w0 F .i32 v l) (hn : 0 ≤ n ∧ n < 4294967296) (hl : (l.length : Int) < 4294967296 ∧ (l.length : Int) * n < 1073741824) :
  iQ prog 187 #[v, .int .i64 n] w fun v' w' => ∃ r : List Int, (r.length : Int) = l.length * n ∧ (∀ x ∈ r, x ∈ l) ∧ V w0 w' (jw 21 .i32 v' r • F) := by
 have hm : (0 : Int) ≤ l.length ∧ (l.length : Int) < 4294967296 := ⟨by omega, hl.1⟩
 have hp0 : (0 : Int) ≤ l.length * n := Int.mul_nonneg (by omega) hn.1
 obtain ⟨T, hT⟩ : ∃ T : Nat, (l.length : Int) * n = T := ⟨((l.length : Int) * n).toNat, by omega⟩
 have hp : (l.length : Int) * n = (T : Int) ∧ (0 : Int) ≤ T ∧ (T : Int) < 4294967296 := ⟨hT, by omega, by omega⟩
 have hT9 : T < 1073741824 := by omega
 have hT0 : l.length = 0 → T = 0 := fun h => by rw [h] at hT; simp at hT; omega
 refine qc func187 ntmps187 ?_
 refine ku O (aI (bM O (aQ (gW O O) (jr O (fun h => by exfalso; (try simp only [Z] at h); omega) (fun h1 => ?_)))))
 (try simp only [Z] at h1)
 refine fV (bM O (aQ (iT (hr _ (H)) ah O) ?_))
 refine aQ (u_conv (by omega) O (by rw [underlying3]; rfl) underlying259) ?_
 refine bJ O ?_
 refine aQ (u_conv (by omega) O (by rw [underlying3]; rfl) underlying259) ?_
 refine dS O func201 (adx H hm hn hp) ?_
 rintro _ w1 ⟨rfl, H1⟩
 refine bJ O (pW O O (pW O O (gU O (uf O (bM O (aQ (eX O O) (jm O (fun h => by exfalso; (try simp only [Z] at h); omega) (fun h2 => ?_))))))))
 (try simp only [Z] at h2)
 refine aY (bJ O (aY (aQ (eX O O) (fG O O (jr O (fun h => by exfalso; (try simp only [Z] at h); omega) (fun h3 => ?_))))))
 (try simp only [Z] at h3)
 refine fV (bM O ?_)
 refine aQ (afH (by omega) O (by rw [underlying259]; rfl) aC) ?_
 refine kF (JE H1 ah (by kernel_rfl : (prog.info? 21).map (fun i => (i.zero, i.size, i.bytes)) = some (some (.int .i32 0), 1, 4)) O O (by omega) (by omega) (by omega)) ?_
 rintro l2 w2 H2
 rw [Int.toNat_natCast] at H2
 refine dZ O (bM O (bJ O (kF (NR (i := 0) (m := l) H2 (hr _ H2.right) ah (by kernel_rfl) (by rw [ai2 H2]; rfl) O (by omega)) ?_)))
 rintro _ w3 ⟨rfl, H3⟩
 refine uf O (bf ?_)
 refine iC [(7, _)] (fun (⟨xs, j⟩ : List Int × Nat) => [(8, .int .i64 (j : Int))]) (fun (⟨xs, j⟩ : List Int × Nat) W => xs.length = T ∧ j ≤ T ∧ (T = 0 ∨ 0 < j) ∧ (∀ x ∈ xs.take j, x ∈ l) ∧ V w0 W (jw 21 .i32 l2 xs • F)) (fun (⟨xs, j⟩ : List Int × Nat) => T - j) ((iq (List.replicate T 0) 0 (l.take ((List.replicate T (0 : Int)).length - 0)), min l.length ((List.replicate T (0 : Int)).length - 0))) mO mO ⟨by rw [fE (by simp; omega)]; simp, by simp; omega, by simp; omega, by rw [Nat.sub_zero, Xl]; intro x hx; rw [List.take_append_of_le_length (by simp; omega)] at hx; exact List.mem_of_mem_take (List.mem_of_mem_take hx), H3⟩ ?_
 rintro ⟨xs, j⟩ w4 ⟨hxl, hj, hj0, hmem, HL⟩
 dsimp only [List.cons_append, List.nil_append]
 refine aI (bM O (bJ O (aQ (iT ((HL).aP) ah O) (aQ (gW O O) (jr O (fun h4 => ?_) (fun h4 => ?_))))))
 ·(try simp only [Z] at h4)
  refine fV (bf ?_)
  have htl : (xs.take j).length = j := by simp; omega
  have abX := HL.drew
  have Kt := V.kp (abX)
  refine uN [] Kt O (gX 0 O Kt O (gX 1 O Kt O (gX 2 O Kt O (iI 3 O Kt (fun _ => oO ((abX).aP) ah bK O O O (by omega)) ?_))))
  refine gX 4 O Kt O (gX 5 O Kt O (iI 6 O Kt (fun _ => oO ((abX).aP) ah bK O O O (by omega)) ?_))
  refine mQ 7 O (NR (i := j) (m := xs.take j) abX (fJ.upto abX.aP (by omega)) ah (by kernel_rfl) O O (by omega)) ?_
  rintro _ w5 ⟨rfl, H5⟩
  have Dj := V.kp (H5)
  refine iK Dj (by kernel_rfl) ?_
  refine iI 8 O Dj (fun _ => fQ O O (by omega)) (iI 9 O Dj (fun _ => dB O) (pq (aH ?_)))
  refine dX ((iq xs j ((xs.take j).take (xs.length - j)), j + min (xs.take j).length (xs.length - j))) ?_ ?_ ?_ ?_
  ·exact mO
  ·exact mO
  ·(try dsimp only)
   first | done | exact ⟨by rw [fE (by simp; omega)]; exact hxl, by simp; omega, by simp; omega, (by have h9 := Xm (l := l) (xs := xs) (j := j) (r := (xs.take j).take (xs.length - j)) (by omega) hmem (fun x hx => hmem x (List.mem_of_mem_take hx)) (by simp; omega); rwa [show ((xs.take j).take (xs.length - j)).length = min (xs.take j).length (xs.length - j) from by simp; omega] at h9), H5⟩
  ·(try dsimp only); omega
 ·(try simp only [Z] at h4)
  refine dR (aO (aO (bG (aX (bM O (fA O (dI results187 O ?_)))))))
  have hjT : j = T := by omega
  exact ⟨xs, by omega, fun x hx => hmem x (by rw [List.take_of_length_le (by omega)]; exact hx), HL⟩
end
def Xn (r : Int) : Int := if 97 ≤ r ∧ r ≤ 122 ∨ 224 ≤ r ∧ r ≤ 254 ∧ r ≠ 247 then IntKind.i32.wrap (r - 32) else r
def loM (r : Int) : Int := if 65 ≤ r ∧ r ≤ 90 ∨ 192 ≤ r ∧ r ≤ 222 ∧ r ≠ 215 then IntKind.i32.wrap (r + 32) else r
def swp (r : Int) : Int := if Xn r = r then loM r else Xn r
theorem aez {r : Int} (h : ¬ Xn r = r) : swp r = Xn r := if_neg h
theorem aeA {r : Int} (h : Xn r = r) : swp r = loM r := if_pos h
theorem IL {l : List Int} {i : Nat} (h : i < l.length) : (l.take (i + 1)).map swp = (l.take i).map swp ++ [swp (l.getD i 0)] := by
  rw [List.take_succ_eq_append_getElem h, List.map_append, List.getD_eq_getElem?_getD, List.getElem?_eq_getElem h]; rfl
theorem adz {r : List Int} {k n : Int} (h : (r.length : Int) = ([k].length : Int) * n) (g : ∀ x ∈ r, x ∈ [k]) : r = List.replicate n.toNat k := by
  rw [List.eq_replicate_iff]
  refine ⟨by simp at h; omega, fun x hx => List.mem_singleton.1 (g x hx)⟩
namespace bF
variable (s : bF)
def tnR (j : Int) (l : List Int) (x : Int) : Int × bF := if s.rF s.c.pt j l = 0 then ((s.mG s.c.pt j l).Eu x, (s.mG s.c.pt j l).uF x) else (s.rF s.c.pt j l, s.mG s.c.pt j l)
def OL (n : Int) : Int := s.c.pt + min n ((s.c.L.length : Int) - s.c.pt)
def AX (name : ByteArray) (keys : List Int) (n : Int) : Int × bF :=
  if name.toList = pI.toList then (if (s.c.L.length : Int) - s.c.pt < n then (6, s) else s.tnR (s.OL n) (List.replicate n.toNat (keys.getD 1 0)) (s.OL n - 1))
  else if s.c.pt = s.c.L.length then (6, s) else s.tnR (s.OL n) (((s.c.L.drop s.c.pt.toNat).take ((s.OL n).toNat - s.c.pt.toNat)).map swp) (s.OL n)
end bF
section
variable {w0 w : World} {F : HP} {c m e : Nat} {s t : bF} {name : ByteArray} {kv lv : Value} {n p i j q a r x : Int} {g : Bool} {keys l : List Int} {k : Nat}
theorem afI : iQ prog 189 #[.int .i32 r] w fun v w' => v = .int .i32 (Xn r) ∧ w = w' := by
  refine ji func189 ntmps189 ?_
  refine ku O (aI (bM O (aQ (lI O O) (jm O (fun h1 => ?_) (fun h1 => ?_)))))
  · (try simp only [Z] at h1)
    try (exfalso; first | contradiction | omega)
    all_goals
      refine aY (bJ O (aY (aQ (pV O O) (je O O (jm O (fun h2 => ?_) (fun h2 => ?_))))))
      · (try simp only [Z] at h2)
        try (exfalso; first | contradiction | omega)
        all_goals
          refine bn (bn (bn (lH (lH (bn (bn (lH (lH (bn (je O O (iE (C9 (bM O (aQ (Gq O O) (fA O (aA (dI qx O ?_)))))))))))))))))
          refine ⟨?_, O⟩; unfold Xn; first | rw [if_pos (by omega)] | rw [if_neg (by omega)]
      · (try simp only [Z] at h2)
        try (exfalso; first | contradiction | omega)
        all_goals
          refine aY (bJ O (aY (aQ (lI O O) (aY (jm O (fun h3 => ?_) (fun h3 => ?_))))))
          · (try simp only [Z] at h3)
            try (exfalso; first | contradiction | omega)
            all_goals
              refine aY (bJ O (aY (aQ (pV O O) (aY (je O O (aY (jm O (fun h4 => ?_) (fun h4 => ?_))))))))
              · (try simp only [Z] at h4)
                try (exfalso; first | contradiction | omega)
                all_goals
                  refine aY (bJ O (aY (aQ (gY O O) (aY (je O O (fG O O (jr O (fun h5 => ?_) (fun h5 => ?_))))))))
                  · (try simp only [Z] at h5)
                    try (exfalso; first | contradiction | omega)
                    all_goals
                      refine bM O (aQ (Gq O O) (fA O (aA (dI qx O ?_))))
                      refine ⟨?_, O⟩; unfold Xn; first | rw [if_pos (by omega)] | rw [if_neg (by omega)]
                  · (try simp only [Z] at h5)
                    try (exfalso; first | contradiction | omega)
                    all_goals
                      refine fV (bM O (fA O (dI qx O ?_)))
                      refine ⟨?_, O⟩; unfold Xn; first | rw [if_pos (by omega)] | rw [if_neg (by omega)]
              · (try simp only [Z] at h4)
                try (exfalso; first | contradiction | omega)
                all_goals
                  refine bn (bn (aY (fG O O (fG O O (iE (oh (fV (bM O (fA O (dI qx O ?_))))))))))
                  refine ⟨?_, O⟩; unfold Xn; first | rw [if_pos (by omega)] | rw [if_neg (by omega)]
          · (try simp only [Z] at h3)
            try (exfalso; first | contradiction | omega)
            all_goals
              refine bn (bn (aY (fG O O (aY (bJ O (bn (bn (aY (fG O O (fG O O (iE (oh (fV (bM O (fA O (dI qx O ?_))))))))))))))))
              refine ⟨?_, O⟩; unfold Xn; first | rw [if_pos (by omega)] | rw [if_neg (by omega)]
  · (try simp only [Z] at h1)
    try (exfalso; first | contradiction | omega)
    all_goals
      refine bn (bn (fG O O (bJ O (aY (bJ O (aY (aQ (lI O O) (aY (jm O (fun h6 => ?_) (fun h6 => ?_))))))))))
      · (try simp only [Z] at h6)
        try (exfalso; first | contradiction | omega)
        all_goals
          refine aY (bJ O (aY (aQ (pV O O) (aY (je O O (aY (jm O (fun h7 => ?_) (fun h7 => ?_))))))))
          · (try simp only [Z] at h7)
            try (exfalso; first | contradiction | omega)
            all_goals
              refine aY (bJ O (aY (aQ (gY O O) (aY (je O O (fG O O (jr O (fun h8 => ?_) (fun h8 => ?_))))))))
              · (try simp only [Z] at h8)
                try (exfalso; first | contradiction | omega)
                all_goals
                  refine bM O (aQ (Gq O O) (fA O (aA (dI qx O ?_))))
                  refine ⟨?_, O⟩; unfold Xn; first | rw [if_pos (by omega)] | rw [if_neg (by omega)]
              · (try simp only [Z] at h8)
                try (exfalso; first | contradiction | omega)
                all_goals
                  refine fV (bM O (fA O (dI qx O ?_)))
                  refine ⟨?_, O⟩; unfold Xn; first | rw [if_pos (by omega)] | rw [if_neg (by omega)]
          · (try simp only [Z] at h7)
            try (exfalso; first | contradiction | omega)
            all_goals
              refine bn (bn (aY (fG O O (fG O O (iE (oh (fV (bM O (fA O (dI qx O ?_))))))))))
              refine ⟨?_, O⟩; unfold Xn; first | rw [if_pos (by omega)] | rw [if_neg (by omega)]
      · (try simp only [Z] at h6)
        try (exfalso; first | contradiction | omega)
        all_goals
          refine bn (bn (aY (fG O O (aY (bJ O (bn (bn (aY (fG O O (fG O O (iE (oh (fV (bM O (fA O (dI qx O ?_))))))))))))))))
          refine ⟨?_, O⟩; unfold Xn; first | rw [if_pos (by omega)] | rw [if_neg (by omega)]
theorem afJ : iQ prog 190 #[.int .i32 r] w fun v w' => v = .int .i32 (loM r) ∧ w = w' := by
  refine ji func190 ntmps190 ?_
  refine ku O (aI (bM O (aQ (lI O O) (jm O (fun h1 => ?_) (fun h1 => ?_)))))
  · (try simp only [Z] at h1)
    try (exfalso; first | contradiction | omega)
    all_goals
      refine aY (bJ O (aY (aQ (pV O O) (je O O (jm O (fun h2 => ?_) (fun h2 => ?_))))))
      · (try simp only [Z] at h2)
        try (exfalso; first | contradiction | omega)
        all_goals
          refine bn (bn (bn (lH (lH (bn (bn (lH (lH (bn (je O O (iE (C9 (bM O (aQ (I8 O O) (fA O (aA (dI qy O ?_)))))))))))))))))
          refine ⟨?_, O⟩; unfold loM; first | rw [if_pos (by omega)] | rw [if_neg (by omega)]
      · (try simp only [Z] at h2)
        try (exfalso; first | contradiction | omega)
        all_goals
          refine aY (bJ O (aY (aQ (lI O O) (aY (jm O (fun h3 => ?_) (fun h3 => ?_))))))
          · (try simp only [Z] at h3)
            try (exfalso; first | contradiction | omega)
            all_goals
              refine aY (bJ O (aY (aQ (pV O O) (aY (je O O (aY (jm O (fun h4 => ?_) (fun h4 => ?_))))))))
              · (try simp only [Z] at h4)
                try (exfalso; first | contradiction | omega)
                all_goals
                  refine aY (bJ O (aY (aQ (gY O O) (aY (je O O (fG O O (jr O (fun h5 => ?_) (fun h5 => ?_))))))))
                  · (try simp only [Z] at h5)
                    try (exfalso; first | contradiction | omega)
                    all_goals
                      refine bM O (aQ (I8 O O) (fA O (aA (dI qy O ?_))))
                      refine ⟨?_, O⟩; unfold loM; first | rw [if_pos (by omega)] | rw [if_neg (by omega)]
                  · (try simp only [Z] at h5)
                    try (exfalso; first | contradiction | omega)
                    all_goals
                      refine fV (bM O (fA O (dI qy O ?_)))
                      refine ⟨?_, O⟩; unfold loM; first | rw [if_pos (by omega)] | rw [if_neg (by omega)]
              · (try simp only [Z] at h4)
                try (exfalso; first | contradiction | omega)
                all_goals
                  refine bn (bn (aY (fG O O (fG O O (iE (oh (fV (bM O (fA O (dI qy O ?_))))))))))
                  refine ⟨?_, O⟩; unfold loM; first | rw [if_pos (by omega)] | rw [if_neg (by omega)]
          · (try simp only [Z] at h3)
            try (exfalso; first | contradiction | omega)
            all_goals
              refine bn (bn (aY (fG O O (aY (bJ O (bn (bn (aY (fG O O (fG O O (iE (oh (fV (bM O (fA O (dI qy O ?_))))))))))))))))
              refine ⟨?_, O⟩; unfold loM; first | rw [if_pos (by omega)] | rw [if_neg (by omega)]
  · (try simp only [Z] at h1)
    try (exfalso; first | contradiction | omega)
    all_goals
      refine bn (bn (fG O O (bJ O (aY (bJ O (aY (aQ (lI O O) (aY (jm O (fun h6 => ?_) (fun h6 => ?_))))))))))
      · (try simp only [Z] at h6)
        try (exfalso; first | contradiction | omega)
        all_goals
          refine aY (bJ O (aY (aQ (pV O O) (aY (je O O (aY (jm O (fun h7 => ?_) (fun h7 => ?_))))))))
          · (try simp only [Z] at h7)
            try (exfalso; first | contradiction | omega)
            all_goals
              refine aY (bJ O (aY (aQ (gY O O) (aY (je O O (fG O O (jr O (fun h8 => ?_) (fun h8 => ?_))))))))
              · (try simp only [Z] at h8)
                try (exfalso; first | contradiction | omega)
                all_goals
                  refine bM O (aQ (I8 O O) (fA O (aA (dI qy O ?_))))
                  refine ⟨?_, O⟩; unfold loM; first | rw [if_pos (by omega)] | rw [if_neg (by omega)]
              · (try simp only [Z] at h8)
                try (exfalso; first | contradiction | omega)
                all_goals
                  refine fV (bM O (fA O (dI qy O ?_)))
                  refine ⟨?_, O⟩; unfold loM; first | rw [if_pos (by omega)] | rw [if_neg (by omega)]
          · (try simp only [Z] at h7)
            try (exfalso; first | contradiction | omega)
            all_goals
              refine bn (bn (aY (fG O O (fG O O (iE (oh (fV (bM O (fA O (dI qy O ?_))))))))))
              refine ⟨?_, O⟩; unfold loM; first | rw [if_pos (by omega)] | rw [if_neg (by omega)]
      · (try simp only [Z] at h6)
        try (exfalso; first | contradiction | omega)
        all_goals
          refine bn (bn (aY (fG O O (aY (bJ O (bn (bn (aY (fG O O (fG O O (iE (oh (fV (bM O (fA O (dI qy O ?_))))))))))))))))
          refine ⟨?_, O⟩; unfold loM; first | rw [if_pos (by omega)] | rw [if_neg (by omega)]
theorem abY (h : s.rF s.c.pt j l = 0) : s.tnR j l x = ((s.mG s.c.pt j l).Eu x, (s.mG s.c.pt j l).uF x) := if_pos h
theorem abZ (h : ¬ s.rF s.c.pt j l = 0) : s.tnR j l x = (s.rF s.c.pt j l, s.mG s.c.pt j l) := if_neg h
theorem Yt (h : name.toList = pI.toList) (h2 : (s.c.L.length : Int) - s.c.pt < n) : s.AX name keys n = (6, s) := (if_pos h).trans (if_pos h2)
theorem RN (h : name.toList = pI.toList) (h2 : ¬ (s.c.L.length : Int) - s.c.pt < n) : s.AX name keys n = s.tnR (s.OL n) (List.replicate n.toNat (keys.getD 1 0)) (s.OL n - 1) := (if_pos h).trans (if_neg h2)
theorem Yu (h : ¬ name.toList = pI.toList) (h2 : s.c.pt = s.c.L.length) : s.AX name keys n = (6, s) := (if_neg h).trans (if_pos h2)
theorem RP (h : ¬ name.toList = pI.toList) (h2 : ¬ s.c.pt = s.c.L.length) : s.AX name keys n = s.tnR (s.OL n) (((s.c.L.drop s.c.pt.toNat).take ((s.OL n).toNat - s.c.pt.toNat)).map swp) (s.OL n) := (if_neg h).trans (if_neg h2)
theorem Ql (H : V w0 w (VC c m e name kv n g lv s.c.pt • jw 21 .i32 lv s.c.L • eH e s • F)) (hk : jh w0 F .i32 kv keys) (hk2 : name.toList = pI.toList → 2 ≤ keys.length) (hn : 1 ≤ n ∧ n ≤ 1000000) :
  iQ prog 166 #[.pointer (some ⟨c, 0, none⟩)] w fun v w' => v = .int .i64 (s.AX name keys n).1 ∧ V w0 w' (VC c m e name kv n g lv s.c.pt • jw 21 .i32 lv s.c.L • eH e (s.AX name keys n).2 • F) := by
 obtain ⟨hln, hpt⟩ := BG H.f3
 refine ji func166 ntmps166 ?_
 refine ku O (aI ?_)
 have Jk := H.drew
 have jU := V.kp (Jk.f3.f3.f3)
 refine uN [3, 7, 11, 16] jU O (gX 0 O jU O (jE 1 O jU O (gy 2 O jU 7 aN O ay O (jf 3 O jU (fun W hW => jv aC O ((Kp.h hW)).get.2 O) (gX 4 O jU O (jE 5 O jU O (gy 6 O jU 4 aN O ay O (jf 7 O jU (fun W hW => jv aC O ((Kp.h hW)).get.2 O) (gX 8 O jU O (jE 9 O jU O (gy 10 O jU 6 aN O bV O (jf 11 O jU (fun W hW => jv ah O ((Kp.h hW)).get.2 O) (iI 12 O jU (fun _ => iT ((Jk.f2).aP) ah O) (gX 13 O jU O (jE 14 O jU O (gy 15 O jU 7 aN O ay O (jf 16 O jU (fun W hW => jv aC O ((Kp.h hW)).get.2 O) (iI 17 O jU (fun _ => jk O O (by omega)) (iI 18 O jU (fun _ => wO O O) (iI 19 O jU (fun _ => fQ O O (by omega)) (iI 20 O jU (fun _ => dB O) (pq (aX (ku O (aI (bM O (dK O (bI 2 aN O eG O (fC dw O (Jk).get.2 O (aQ (bY O O) (jr O (fun h1 => ?_) (fun h1 => ?_))))))))))))))))))))))))))))))))
 ·(try simp only [Z] at h1)
  have hnm : name.toList = pI.toList := h1
  have hk3 := hk2 hnm
  refine aI (aI ?_)
  have adA := Jk.drew
  have zh := V.kp (adA.f3.f3.f3)
  refine uN [3, 8, 13] zh O (gX 0 O zh O (jE 1 O zh O (gy 2 O zh 6 aN O bV O (jf 3 O zh (fun W hW => jv ah O ((Kp.h hW)).get.2 O) (iI 4 O zh (fun _ => iT ((adA.f2).aP) ah O) (gX 5 O zh O (jE 6 O zh O (gy 7 O zh 7 aN O ay O (jf 8 O zh (fun W hW => jv aC O ((Kp.h hW)).get.2 O) (iI 9 O zh (fun _ => jk O O (by omega)) (gX 10 O zh O (jE 11 O zh O (gy 12 O zh 4 aN O ay O (jf 13 O zh (fun W hW => jv aC O ((Kp.h hW)).get.2 O) (iI 14 O zh (fun _ => gW O O) (pq (aX (aZ O (fun h2 => ?_) (fun h2 => ?_)))))))))))))))))))
  ·(try simp only [Z] at h2)
   refine kC O (aA (aA (dI results166 O ?_)))
   have e9 := Yt (keys := keys) hnm (by omega)
   exact ⟨by rw [e9], by rw [e9]; exact adA.f3.f3.f3⟩
  ·(try simp only [Z] at h2)
   refine fV (aI ?_)
   have afK := adA.drew
   have EP := V.kp (afK.f3.f3.f3)
   refine uN [3, 5, 10] EP O (gX 0 O EP O (jE 1 O EP O (gy 2 O EP 3 aN O bV O (jf 3 O EP (fun W hW => jv ah O ((Kp.h hW)).get.2 O) ?_))))
   obtain ⟨bkv, okv, ckv, ekv⟩ := fJ.rW (hk _ (afK.right.right.right)) (by omega)
   cases ekv
   refine iI 4 O EP (fun _ => dM ah bK O O (by omega)) ?_
   refine jf 5 O EP (fun W hW => fF (dA bC O) O (by first | exact fJ.lX (hk _ ((Kp.h hW).right.right.right)) (by omega) | exact fJ.xJ (hk _ ((Kp.h hW).right.right.right)) (by omega) | exact fJ.xH (hk _ ((Kp.h hW).right.right.right)) (by omega))) ?_
   refine gX 7 O EP O (jE 8 O EP O (gy 9 O EP 4 aN O ay O (jf 10 O EP (fun W hW => jv aC O ((Kp.h hW)).get.2 O) (mQ 6 O (mM (k := .i32) (l := [_]) afK ah bK lq O O O (by decide)) ?_))))
   rintro l1 w1 H1
   have adB := V.kp (H1.f4.f4.f4.f4)
   refine fD adB (fun W hW => (Kp.h hW).right.f3.f3.f3) ?_
   refine mQ 11 O (wR O func187 (ady (l := [keys.getD 1 0]) H1 (fun W HW => (HW).aP) (by omega) (by simp; omega))) ?_
   rintro u2 w2 ⟨rr2, hrl2, ai3, H2⟩
   obtain rfl := adz hrl2 ai3
   have zx := V.kp (H2.f5.f5.f5.f5.f5)
   refine iK zx (by kernel_rfl) ?_
   refine iI 12 O zx (fun _ => dB O) (pq (aX (aI (aI ?_))))
   have ahz := H2.drew
   have ER := V.kp (ahz.f5.f5.f5.f5.f5)
   refine uN [3, 7] ER O (gX 0 O ER O (jE 1 O ER O (gy 2 O ER 1 aN O jM O (jf 3 O ER (fun W hW => jv dU O ((Kp.h hW).f3).get.2 O) (gX 4 O ER O (jE 5 O ER O (gy 6 O ER 7 aN O ay O (jf 7 O ER (fun W hW => jv aC O ((Kp.h hW).f3).get.2 O) (gX 8 O ER O (gX 9 O ER O (mQ 10 O (wR O func188 (tN ahz.f5 (fun W HW => (HW).aP))) ?_)))))))))))
   rintro _ w3 ⟨rfl, H3⟩
   have Bc := V.kp (H3.f5.f5.f5.f5.f5)
   refine iK Bc (by kernel_rfl) ?_
   refine iI 11 O Bc (fun _ => dB O) (pq (aX (bM O (aQ (gY O O) (jr O (fun h3 => ?_) (fun h3 => ?_))))))
   ·(try simp only [Z] at h3)
    have hz := h3
    refine bM O (fA O (aA (aA (dI results166 O ?_))))
    have e9 := (RN (s := s) (n := n) (keys := keys) hnm (by omega)).trans (abZ hz)
    exact ⟨by rw [e9]; rfl, by rw [e9]; exact H3.f2.right.f2.right.f3.f3⟩
   ·(try simp only [Z] at h3)
    have hz := h3
    refine fV (bM O (dK O (bI 1 aN O jM O (fC dU O (H3.f4).get.2 O (bJ O (aQ (jk O O (by omega)) (dS O func30 (tK H3) ?_)))))))
    rintro _ w4 ⟨rfl, H4⟩
    refine fA O (aA (dI results166 O ?_))
    have e9 := (RN (s := s) (n := n) (keys := keys) hnm (by omega)).trans (abY hz)
    exact ⟨by rw [e9]; rfl, by rw [e9]; exact H4.f2.right.f2.right.f3.f3⟩
 ·(try simp only [Z] at h1)
  have hnm : ¬ name.toList = pI.toList := h1
  refine fV (aI (aI ?_))
  have Yv := Jk.drew
  have AY := V.kp (Yv.f3.f3.f3)
  refine uN [3, 7] AY O (gX 0 O AY O (jE 1 O AY O (gy 2 O AY 7 aN O ay O (jf 3 O AY (fun W hW => jv aC O ((Kp.h hW)).get.2 O) (gX 4 O AY O (jE 5 O AY O (gy 6 O AY 6 aN O bV O (jf 7 O AY (fun W hW => jv ah O ((Kp.h hW)).get.2 O) (iI 8 O AY (fun _ => iT ((Yv.f2).aP) ah O) (iI 9 O AY (fun _ => eF O O) (pq (aX (aZ O (fun h4 => ?_) (fun h4 => ?_))))))))))))))
  ·(try simp only [Z] at h4)
   refine kC O (aA (dI results166 O ?_))
   have e9 := Yu (keys := keys) (n := n) hnm (by omega)
   exact ⟨by rw [e9], by rw [e9]; exact Yv.f3.f3.f3⟩
  ·(try simp only [Z] at h4)
   refine fV (aI (aI ?_))
   have UR := Yv.drew
   have yh := V.kp (UR.f3.f3.f3)
   refine uN [3, 7] yh O (gX 0 O yh O (jE 1 O yh O (gy 2 O yh 6 aN O bV O (jf 3 O yh (fun W hW => jv ah O ((Kp.h hW)).get.2 O) (gX 4 O yh O (jE 5 O yh O (gy 6 O yh 7 aN O ay O (jf 7 O yh (fun W hW => jv aC O ((Kp.h hW)).get.2 O) (gX 8 O yh O (iI 9 O yh (fun _ => oO ((UR.f2).aP) ah bK O O O (by omega)) ?_))))))))))
   refine iI 10 O yh (fun _ => iT (fJ.cut ((UR.f2).aP) (by omega) (by omega)) ah O) (gX 11 O yh O (pq (aX (bf ?_))))
   obtain ⟨az, cz, ez, -⟩ := fJ.open (fJ.cut (i := s.c.pt.toNat) (j := (s.c.pt + min n ((s.c.L.length : Int) - s.c.pt)).toNat) (UR.f2).aP (by omega) (by omega))
   rw [ez]
   have hzr : ∀ (W : World) (G : HP), V w0 W (jw 21 .i32 lv s.c.L • G) → fJ W .i32 (.slice az ((s.c.L.drop s.c.pt.toNat).take ((s.c.pt + min n ((s.c.L.length : Int) - s.c.pt)).toNat - s.c.pt.toNat)).length cz) ((s.c.L.drop s.c.pt.toNat).take ((s.c.pt + min n ((s.c.L.length : Int) - s.c.pt)).toNat - s.c.pt.toNat)) := fun W G HW => by rw [← ez]; exact fJ.cut HW.aP (by omega) (by omega)
   obtain ⟨sl, hsl⟩ : ∃ sl, sl = (s.c.L.drop s.c.pt.toNat).take ((s.c.pt + min n ((s.c.L.length : Int) - s.c.pt)).toNat - s.c.pt.toNat) := ⟨_, rfl⟩
   have hsq : ((s.c.L.drop s.c.pt.toNat).take ((s.c.pt + min n ((s.c.L.length : Int) - s.c.pt)).toNat - s.c.pt.toNat)).length = sl.length := by rw [hsl]
   have aki : sl.length = (s.c.pt + min n ((s.c.L.length : Int) - s.c.pt)).toNat - s.c.pt.toNat := by rw [hsl]; simp; omega
   refine iC [(0, _), (3, _), (102, _), (103, _)] (fun (⟨u, i⟩ : Value × Nat) => [(4, u), (104, .int .i64 (i : Int))]) (fun (⟨u, i⟩ : Value × Nat) W => i ≤ sl.length ∧ V w0 W (jw 21 .i32 u ((sl.take i).map swp) • VC c m e name kv n g lv s.c.pt • jw 21 .i32 lv s.c.L • eH e s • F)) (fun (⟨u, i⟩ : Value × Nat) => sl.length - i) ((.slice none 0 0, 0)) JF uh ⟨by omega, (UR.f3.f3.f3).jO none⟩ ?_
   rintro ⟨u, i⟩ w5 ⟨hi, HL⟩
   dsimp only [List.cons_append, List.nil_append]
   refine iy (aQ (gW O O) (rP (aZ O (fun h5 => ?_) (fun h5 => ?_))))
   ·(try simp only [Z] at h5)
    refine fV (aI (bf (iy ?_)))
    obtain ⟨bz, oz, rfl⟩ := fJ.pos (hzr _ _ (HL.f3)) (by omega)
    refine aQ (dM ah bK O O (by omega)) ?_
    refine aQ (fF (dA bC O) O (by first | exact fJ.lX (hzr _ _ (HL.f3)) (by omega) | exact fJ.xJ (hzr _ _ (HL.f3)) (by omega) | exact fJ.xH (hzr _ _ (HL.f3)) (by omega))) ?_
    refine dZ O (bM O (dS O func189 (afI) ?_))
    rintro _ _ ⟨rfl, rfl⟩
    refine dZ O (bM O (bJ O (aQ (gY O O) (jr O (fun h6 => ?_) (fun h6 => ?_)))))
    ·(try simp only [Z] at h6)
     refine aB (jX O O (kF (mM (k := .i32) (l := [_]) HL ah bK lq O O O (by decide)) ?_))
     rintro l7 w7 H7
     refine kF (lJ H7.f2 ((H7).aP) ah UU O O (by first | omega | (simp only [List.length_append, List.length_nil, List.length_cons]; omega) | (simp; omega)) (by first | omega | (simp only [List.length_append, List.length_nil, List.length_cons]; omega) | (simp; omega))) ?_
     rintro l8 w8 H8
     try simp only [List.nil_append] at H8
     refine gU O (bZ (aH (aX (aB (aQ (fQ O O (by omega)) (bJ O (bZ ?_)))))))
     refine dX (_, _) uh JF (by (try dsimp only); exact ⟨by omega, (by have HX := H8.f2.right.f4.f4.f4.f4; (first | rw [IL (by omega), aeA (by rw [hsl]; assumption)] | rw [IL (by omega), aez (by rw [hsl]; assumption)]); rw [hsl] at HX ⊢; exact HX)⟩) ?_
     ·(try dsimp only); omega
    ·(try simp only [Z] at h6)
     refine aB (jX O O (dS O func190 (afJ) ?_))
     rintro _ _ ⟨rfl, rfl⟩
     refine kF (mM (k := .i32) (l := [_]) HL ah bK lq O O O (by decide)) ?_
     rintro l10 w10 pz
     refine kF (lJ pz.f2 ((pz).aP) ah UU O O (by first | omega | (simp only [List.length_append, List.length_nil, List.length_cons]; omega) | (simp; omega)) (by first | omega | (simp only [List.length_append, List.length_nil, List.length_cons]; omega) | (simp; omega))) ?_
     rintro l11 FM rY
     try simp only [List.nil_append] at rY
     refine gU O (bZ (aH (aX (aB (aQ (fQ O O (by omega)) (bJ O (bZ ?_)))))))
     refine dX (_, _) uh JF (by (try dsimp only); exact ⟨by omega, (by have HX := rY.f2.right.f4.f4.f4.f4; (first | rw [IL (by omega), aeA (by rw [hsl]; assumption)] | rw [IL (by omega), aez (by rw [hsl]; assumption)]); rw [hsl] at HX ⊢; exact HX)⟩) ?_
     ·(try dsimp only); omega
   ·(try simp only [Z] at h5)
    refine dR (aO (aO (bG (aX (aI (aI ?_))))))
    obtain rfl : i = sl.length := by omega
    have HX := HL
    rw [List.take_length] at HX
    have ab0 := HX.drew
    have xC := V.kp (ab0.f4.f4.f4.f4)
    refine uN [3, 7] xC O (gX 0 O xC O (jE 1 O xC O (gy 2 O xC 1 aN O jM O (jf 3 O xC (fun W hW => jv dU O ((Kp.h hW).f2).get.2 O) (gX 4 O xC O (jE 5 O xC O (gy 6 O xC 7 aN O ay O (jf 7 O xC (fun W hW => jv aC O ((Kp.h hW).f2).get.2 O) (gX 8 O xC O (gX 9 O xC O (mQ 10 O (wR O func188 (tN ab0.f4 (fun W HW => (HW).aP))) ?_)))))))))))
    rintro _ w12 ⟨rfl, vM⟩
    have FZ := V.kp (vM.f4.f4.f4.f4)
    refine iK FZ (by kernel_rfl) ?_
    refine iI 11 O FZ (fun _ => dB O) (pq (aX (bM O (aQ (gY O O) (jr O (fun h7 => ?_) (fun h7 => ?_))))))
    ·(try simp only [Z] at h7)
     have hzz := h7
     refine bM O (fA O (aA (dI results166 O ?_)))
     have e9 := (show s.AX name keys n = s.tnR (s.c.pt + min n ((s.c.L.length : Int) - s.c.pt)) (sl.map swp) (s.c.pt + min n ((s.c.L.length : Int) - s.c.pt)) from hsl ▸ RP hnm (by omega)).trans (abZ hzz)
     exact ⟨by rw [e9], by rw [e9]; exact vM.f2.right.f3.f3⟩
    ·(try simp only [Z] at h7)
     have hzz := h7
     refine fV (bM O (dK O (bI 1 aN O jM O (fC dU O (vM.f3).get.2 O (bJ O (dS O func30 (tK vM) ?_))))))
     rintro _ PD ⟨rfl, xI⟩
     refine fA O (dI results166 O ?_)
     have e9 := (show s.AX name keys n = s.tnR (s.c.pt + min n ((s.c.L.length : Int) - s.c.pt)) (sl.map swp) (s.c.pt + min n ((s.c.L.length : Int) - s.c.pt)) from hsl ▸ RP hnm (by omega)).trans (abY hzz)
     exact ⟨by rw [e9], by rw [e9]; exact xI.f2.right.f3.f3⟩
end
end Go.Proofs.YtpdeedplgmbopaaGreatDoor
end
section
namespace Go.Proofs.YtpdeedplgmbopaaGreatDoor
open Go.RowKit
section
variable {s t u : bF}
theorem Yw (s : bF) (x : jl) : Fr s (s.qR x) := by
  unfold bF.qR; split
  · exact Fr.refl s
  · split <;> exact ⟨rfl, rfl, rfl, rfl⟩
theorem IQ (s : bF) (i j : Int) (l : List Int) : Fr s (s.mG i j l) := by
  unfold bF.mG; split
  · have h := Yw (s.nZ (mV s.c.L i j l) (uy s.c.L s.c.pt i j l) (wY s.c.L s.c.mark i j l)) (uz s.c.L i j l, nR s.c.L i j l, nS s.c.L i j l)
    exact ⟨h.inn, h.was, h.hl, h.qQ⟩
  · exact Fr.refl s
theorem adC (s : bF) (i j : Int) (b : Bool) : Fr s (s.tH i j b) := by unfold bF.tH; split <;> exact ⟨rfl, rfl, rfl, rfl⟩
theorem Yx (s : bF) (x : Int) : Fr s (s.uF x) := by unfold bF.uF; split <;> exact ⟨rfl, rfl, rfl, rfl⟩
theorem Yy (s : bF) (b : Bool) : Fr s (s.MK b) := by unfold bF.MK; split <;> exact ⟨rfl, rfl, rfl, rfl⟩
theorem Yz (s : bF) (x : Int) : Fr s (s.vV x) := by unfold bF.vV; split <;> exact ⟨rfl, rfl, rfl, rfl⟩
end
end Go.Proofs.YtpdeedplgmbopaaGreatDoor
end
