import Derived.Test.YtgndbccogcofjaaGreatDoorZ2
import Derived.Test.YtgndbccogcofjaaGreatDoorZ19
set_option linter.unusedSimpArgs false
set_option linter.unusedVariables false
/- Texts of mine, joined, their names in short: EmX2 EmBM EmB. -/
section
namespace Go.Proofs.YtgndbccogcofjaaGreatDoor
open Go.RowKit
open _root_.Go.Proofs.Tryz
theorem Rz {w0 w : World} {F : HP} {e : Nat} {s : bC} (H : aB w0 w (dA e s • F)) : s.c.L.length ≤ 1024 ∧ (0 ≤ s.c.pt ∧ s.c.pt ≤ s.c.L.length) ∧ (-1 ≤ s.c.mark ∧ s.c.mark ≤ s.c.L.length) := by
  obtain ⟨pb, pr, pw, pt, pm, ph, bl, pv, es, u0, u1, u2, u3, u4, u5, u6, u7, u8, u9, ua, h, _, _, H2⟩ := H.BQ
  obtain ⟨a, c, xs, f, t, h1, h2, h3, h4, h5, h6, h7, _⟩ := H2.f2.buf
  exact ⟨h4, h6, h7⟩
theorem iw.as {w : World} {k : IntKind} {u v : Value} {l : List Int} (h : iw w k v l) (e : u = v) : iw w k u l := e ▸ h
theorem Ob {g : List Int → Int → Int} {l : List Int} (hg : ∀ x, 0 ≤ g l x ∧ g l x ≤ l.length) : ∀ (n : Nat) (x : Int), 0 ≤ x ∧ x ≤ l.length → 0 ≤ qK g l n x ∧ qK g l n x ≤ l.length := by
  intro n
  induction n with
  | zero => intro x h; exact h
  | succ n ih =>
    intro x h
    rw [qK]
    split
    · exact h
    · exact ih _ (hg x)
theorem Us (l : List Int) (x : Int) : 0 ≤ BA l x ∧ BA l x ≤ l.length := by
  unfold BA dV
  have h1 := mY (fun r => !bg r) l (pU l.length x)
  have h2 := mY bg l h1.2
  omega
theorem Pm (l : List Int) (x : Int) : 0 ≤ tu l x ∧ tu l x ≤ l.length := by
  unfold tu jc
  have h0 := pU l.length x
  have h1 := zu (fun r => !bg r) l (jG l.length x)
  have h2 := zu bg l (nD (fun r => !bg r) l (jG l.length x))
  omega
theorem Gx {l : List Int} {p : Int} (n : Int) (h : 0 ≤ p ∧ p ≤ l.length) : 0 ≤ bV l p n ∧ bV l p n ≤ l.length := by
  unfold bV
  split
  · exact Ob (Us l) _ _ h
  · exact Ob (Pm l) _ _ h
namespace bC
variable (s : bC)
abbrev MK (fr to : Int) : List Int := (s.c.L.drop fr.toNat).take (to.toNat - fr.toNat)
def xk (f : Bool → Int → Int) (fr to en : Int) : Int := if fr < to then (if s.jF fr to (wo f false (s.MK fr to)) = 0 then (s.iC fr to (wo f false (s.MK fr to))).nK en else s.jF fr to (wo f false (s.MK fr to))) else s.nK en
def xq (f : Bool → Int → Int) (fr to en : Int) : bC := if fr < to then (if s.jF fr to (wo f false (s.MK fr to)) = 0 then (s.iC fr to (wo f false (s.MK fr to))).kN en else s.iC fr to (wo f false (s.MK fr to))) else s.kN en
def AP (f : Bool → Int → Int) (n : Int) : Int := if n < 0 then s.xk f (bV s.c.L s.c.pt n) s.c.pt s.c.pt else s.xk f s.c.pt (bV s.c.L s.c.pt n) (bV s.c.L s.c.pt n)
def AQ (f : Bool → Int → Int) (n : Int) : bC := if n < 0 then s.xq f (bV s.c.L s.c.pt n) s.c.pt s.c.pt else s.xq f s.c.pt (bV s.c.L s.c.pt n) (bV s.c.L s.c.pt n)
end bC
section
variable {w0 w : World} {F : HP} {c e : Nat} {s : bC} {lv kv fv : Value} {l keys : List Int} {p m n nn i j : Int} {g back : Bool} {f : Bool → Int → Int}
theorem EK (H : aB w0 w (dH c (.cells #[.pointer (some ⟨e, 0, none⟩), lv, .int .i64 s.c.pt, .int .i64 m, .int .i64 n, .bool g, kv] 79 (0, 0)) • gW 21 .i32 lv s.c.L • dA e s • F)) (hT : mD w0) (hf : EJ w0 fv f) (h3 : -1000000 ≤ n) (h4 : n ≤ 1000000) (h5 : 0 ≤ n) :
  fG prog 131 #[.pointer (some ⟨c, 0, none⟩), fv] w fun v w' => v = .int .i64 (s.xk f s.c.pt (bV s.c.L s.c.pt n) (bV s.c.L s.c.pt n)) ∧ aB w0 w' (dH c (.cells #[.pointer (some ⟨e, 0, none⟩), lv, .int .i64 s.c.pt, .int .i64 m, .int .i64 n, .bool g, kv] 79 (0, 0)) • gW 21 .i32 lv s.c.L • dA e (s.xq f s.c.pt (bV s.c.L s.c.pt n) (bV s.c.L s.c.pt n)) • F) := by
 have hbd := Rz H.f3
 have hwb := Gx n hbd.2.1
 have hxl : ∀ _ : s.c.pt < (bV s.c.L s.c.pt n), (((s.c.L.drop (s.c.pt).toNat).take (((bV s.c.L s.c.pt n)).toNat - (s.c.pt).toNat)).length : Int) = (bV s.c.L s.c.pt n) - s.c.pt := fun h9 => by simp only [List.length_take, List.length_drop]; omega
 refine gG func131 ntmps131 ?_
 dsimp only [bf, Nat.reduceAdd]
 refine ay (ah (aV rfl (aA (aj (ay ?_)))))
 have BR := H.drew
 have fA := aB.kp (BR.f3.f3.f3)
 refine yI [3, 8] fA rfl (iD 0 rfl fA rfl (jS 1 rfl fA rfl (gV 2 rfl fA 2 underlying79 rfl sizeOf3 rfl (jB 3 rfl fA (fun W hW => jR underlying3 rfl ((Kp.h hW)).get.2 rfl) (iD 4 rfl fA rfl (iD 5 rfl fA rfl (jS 6 rfl fA rfl (gV 7 rfl fA 4 underlying79 rfl sizeOf3 rfl (jB 8 rfl fA (fun W hW => jR underlying3 rfl ((Kp.h hW)).get.2 rfl) (kQ 9 rfl (wJ rfl func121 (tH BR.f2.f2 hT (by omega) (by omega))) ?_))))))))))
 rintro _ w1 ⟨rfl, H1⟩
 have IU := aB.kp (H1.f3.f3.f3)
 refine dZ IU (fun W hW => (Kp.h hW).f3.f3.f3) ?_
 refine jr 10 rfl IU (fun _ => eH rfl) (jr 11 rfl IU (fun _ => eH rfl) (qQ (aj (ay (ah (aN rfl (aV rfl (aA (aj (ay (ay (ah (aN rfl (bM rfl (bG 4 underlying79 rfl sizeOf3 rfl (dX underlying3 rfl (H1).get.2 rfl (aU (eF rfl rfl) (aA (aj (aP rfl (fun h => by exfalso; (try simp only [aF] at h); omega) (fun h1 => ?_)))))))))))))))))))))
 (try simp only [aF] at h1)
 refine aO (aj (ay (ay (ah (aN rfl (aN rfl (aU (eF rfl rfl) (aA (aj (aP rfl (fun h2 => ?_) (fun h2 => ?_)))))))))))
 ·(try simp only [aF] at h2)
  have hlt := h2
  have abj := hxl hlt
  refine ay (ah (aV rfl (aA (aj (ay (ah (aV rfl (aA (aj (ay (ay ?_)))))))))))
  obtain ⟨cu, Nl⟩ : ∃ cu, cu = ni 1 (s.c.pt).toNat ((bV s.c.L s.c.pt n)).toNat lv := ⟨_, rfl⟩
  refine ah (aN rfl (bM rfl (bG 1 underlying79 rfl sizeOf22 rfl (dX underlying22 rfl (H1).get.2 rfl (aN rfl (aN rfl (aU (Vs (uF ((H1.f2).aS) underlying22 sizeOf21 rfl rfl rfl (by omega)) (Nl.symm)) (aU (jC (iw.as (iw.cut (i := (s.c.pt).toNat) (j := ((bV s.c.L s.c.pt n)).toNat) ((H1.f2).aS) (by omega) (by omega)) Nl) underlying22 rfl) (aN rfl (aA (aj (bF ?_))))))))))))
  refine gQ [(0, _), (1, _), (5, _), (6, _), (7, _), (47, _), (48, _)] (fun (⟨u, k⟩ : Value × Nat) => [(8, u), (9, .bool (IV ((s.c.L.drop (s.c.pt).toNat).take (((bV s.c.L s.c.pt n)).toNat - (s.c.pt).toNat)) k)), (49, .int .i64 (k : Int))]) (fun (⟨u, k⟩ : Value × Nat) W => k ≤ ((s.c.L.drop (s.c.pt).toNat).take (((bV s.c.L s.c.pt n)).toNat - (s.c.pt).toNat)).length ∧ aB w0 W (gW 21 .i32 u (wo f false (((s.c.L.drop (s.c.pt).toNat).take (((bV s.c.L s.c.pt n)).toNat - (s.c.pt).toNat)).take k)) • dH c (.cells #[.pointer (some ⟨e, 0, none⟩), lv, .int .i64 s.c.pt, .int .i64 m, .int .i64 n, .bool g, kv] 79 (0, 0)) • gW 21 .i32 lv s.c.L • dA e s • F)) (fun (⟨u, k⟩ : Value × Nat) => ((s.c.L.drop (s.c.pt).toNat).take (((bV s.c.L s.c.pt n)).toNat - (s.c.pt).toNat)).length - k) ((.slice none 0 0, 0)) (Sub.cons rfl (Sub.cons rfl (Sub.cons rfl (Sub.cons rfl (Sub.cons rfl (Sub.cons rfl (Sub.cons rfl (Sub.nil _)))))))) (Sub.cons rfl (Sub.cons rfl (Sub.cons rfl (Sub.nil _)))) ⟨by omega, (H1.f3.f3.f3).jf none⟩ ?_
  rintro ⟨u, k⟩ w2 ⟨hk, HL⟩
  dsimp only [List.cons_append, List.nil_append]
  refine ay (ah (aU (eF rfl rfl) (aA (aj (ay (aP rfl (fun h3 => ?_) (fun h3 => ?_)))))))
  ·(try simp only [aF] at h3)
   have hkl := h3
   have hcl := Oa f (((s.c.L.drop (s.c.pt).toNat).take (((bV s.c.L s.c.pt n)).toNat - (s.c.pt).toNat)).take k) false
   rw [List.length_take, Nat.min_eq_left (by omega)] at hcl
   refine aO (aj (ay (bF (ay (ah ?_)))))
   obtain ⟨Y1, Y2, Y3, RD⟩ := iw.zn (iw.as (iw.cut (i := (s.c.pt).toNat) (j := ((bV s.c.L s.c.pt n)).toNat) ((HL.f3).aS) (by omega) (by omega)) Nl) (by omega)
   cases RD
   refine aU (gX underlying22 sizeOf21 rfl rfl (by omega)) ?_
   refine aU (kU (dB underlying21 rfl) rfl (by first | exact iw.GV (iw.as (iw.cut (i := (s.c.pt).toNat) (j := ((bV s.c.L s.c.pt n)).toNat) ((HL.f3).aS) (by omega) (by omega)) Nl) (by omega) | exact iw.UD (iw.as (iw.cut (i := (s.c.pt).toNat) (j := ((bV s.c.L s.c.pt n)).toNat) ((HL.f3).aS) (by omega) (by omega)) Nl) (by omega) | exact iw.SK (iw.as (iw.cut (i := (s.c.pt).toNat) (j := ((bV s.c.L s.c.pt n)).toNat) ((HL.f3).aS) (by omega) (by omega)) Nl) (by omega))) ?_
   refine aV rfl (aA (aj (ay (ah (aN rfl (aN rfl (aN rfl (aU (jY rfl) (aN rfl (iy (pI rfl rfl ((hf.2 _ _ _ _ HL))) ?_))))))))))
   rintro _ w3 ⟨rfl, H3⟩
   refine iy (bT (k := .i32) (l := [_]) H3 underlying22 sizeOf21 zeroValue21 rfl rfl rfl (by decide)) ?_
   rintro l4 w4 H4
   refine iy (kR H4.f2 ((H4).aS) underlying22 (show (prog.info? 21).map (fun i => (i.zero, i.size, i.bytes)) = some (some (.int .i32 0), 1, 4) by kernel_rfl) rfl rfl (by first | omega | (simp only [List.length_append, List.length_nil, List.length_cons]; omega) | (simp; omega)) (by first | omega | (simp only [List.length_append, List.length_nil, List.length_cons]; omega) | (simp; omega))) ?_
   rintro l5 w5 H5
   try simp only [List.nil_append] at H5
   refine aV rfl (aA (aj (ah (aN rfl (bW rfl func137 (yJ H5 hT) ?_)))))
   rintro _ w6 ⟨rfl, H6⟩
   refine aV rfl (aA (aQ (aj (ah (aU (fC rfl rfl (by omega)) (aN rfl (aA ?_)))))))
   refine eG ((l5, k + 1)) ?_ ?_ ?_ ?_
   ·exact (Sub.cons rfl (Sub.cons rfl (Sub.cons rfl (Sub.nil _))))
   ·exact (Sub.cons rfl (Sub.cons rfl (Sub.cons rfl (Sub.cons rfl (Sub.cons rfl (Sub.cons rfl (Sub.cons rfl (Sub.nil _))))))))
   ·(try dsimp only)
    first | done | exact ⟨by omega, by rw [Ky f (by omega)]; exact H6.f2.right.f4.f4.f4.f4⟩
   ·(try dsimp only); omega
  ·(try simp only [aF] at h3)
   have hkl := h3
   refine eU (aZ (aZ (bK (aj (ay ?_)))))
   have hall : ((s.c.L.drop (s.c.pt).toNat).take (((bV s.c.L s.c.pt n)).toNat - (s.c.pt).toNat)).take k = ((s.c.L.drop (s.c.pt).toNat).take (((bV s.c.L s.c.pt n)).toNat - (s.c.pt).toNat)) := List.take_of_length_le (by omega)
   refine ah (aN rfl (bM rfl (bG 0 underlying79 rfl sizeOf26 rfl (dX underlying26 rfl (HL.f2).get.2 rfl (aN rfl (aN rfl (aN rfl (bW rfl func127 (oq HL.f4 (fun W HW => (HW).aS)) ?_))))))))
   rintro _ w7 ⟨rfl, H7⟩
   refine aV rfl (aA (aj (ay (ah (aN rfl (aU (bY rfl rfl) (aA (aj (aP rfl (fun h4 => ?_) (fun h4 => ?_))))))))))
   ·(try simp only [aF] at h4)
    have hrr := h4
    refine ay (ah (aN rfl (aV rfl (aA (aj (aI (aK (aH (.inl rfl) results131 rfl ?_))))))))
    rw [hall] at hrr
    exact ⟨by rw [hall]; unfold bC.xk; rw [if_pos hlt, if_neg hrr], by have HX := H7.f2.right.f3.f3; rw [hall] at HX; unfold bC.xq; rw [if_pos hlt, if_neg hrr]; exact HX⟩
   ·(try simp only [aF] at h4)
    have hrr := h4
    refine aO (aj (ay (ah (aN rfl (bM rfl (bG 0 underlying79 rfl sizeOf26 rfl (dX underlying26 rfl (H7.f3).get.2 rfl (aN rfl (bW rfl func42 (jl H7) ?_)))))))))
    rintro _ w8 ⟨rfl, H8⟩
    refine aV rfl (aA (aj (aI (aH (.inl rfl) results131 rfl ?_))))
    first | (rw [hall] at hrr; exact ⟨by rw [hall]; unfold bC.xk; rw [if_pos hlt, if_pos hrr], by have HX := H8.f2.right.f3.f3; rw [hall] at HX; unfold bC.xq; rw [if_pos hlt, if_pos hrr]; exact HX⟩) | exact ⟨by unfold bC.xk; rw [if_neg (by omega)], by unfold bC.xq; rw [if_neg (by omega)]; exact H8.f2.right.f3.f3⟩
 ·(try simp only [aF] at h2)
  have hlt := h2
  refine aO (aj (ay (ah (aN rfl (bM rfl (bG 0 underlying79 rfl sizeOf26 rfl (dX underlying26 rfl (H1).get.2 rfl (aN rfl (bW rfl func42 (jl H1.f3) ?_)))))))))
  rintro _ w9 ⟨rfl, H9⟩
  refine aV rfl (aA (aj (aI (aH (.inl rfl) results131 rfl ?_))))
  first | (rw [hall] at hrr; exact ⟨by rw [hall]; unfold bC.xk; rw [if_pos hlt, if_pos hrr], by have HX := H9.f3.f3; rw [hall] at HX; unfold bC.xq; rw [if_pos hlt, if_pos hrr]; exact HX⟩) | exact ⟨by unfold bC.xk; rw [if_neg (by omega)], by unfold bC.xq; rw [if_neg (by omega)]; exact H9.f3.f3⟩
theorem BX (H : aB w0 w (dH c (.cells #[.pointer (some ⟨e, 0, none⟩), lv, .int .i64 s.c.pt, .int .i64 m, .int .i64 n, .bool g, kv] 79 (0, 0)) • gW 21 .i32 lv s.c.L • dA e s • F)) (hT : mD w0) (hf : EJ w0 fv f) (h3 : -1000000 ≤ n) (h4 : n ≤ 1000000) (h5 : n < 0) :
  fG prog 131 #[.pointer (some ⟨c, 0, none⟩), fv] w fun v w' => v = .int .i64 (s.xk f (bV s.c.L s.c.pt n) s.c.pt s.c.pt) ∧ aB w0 w' (dH c (.cells #[.pointer (some ⟨e, 0, none⟩), lv, .int .i64 s.c.pt, .int .i64 m, .int .i64 n, .bool g, kv] 79 (0, 0)) • gW 21 .i32 lv s.c.L • dA e (s.xq f (bV s.c.L s.c.pt n) s.c.pt s.c.pt) • F) := by
 have hbd := Rz H.f3
 have hwb := Gx n hbd.2.1
 have hxl : ∀ _ : (bV s.c.L s.c.pt n) < s.c.pt, (((s.c.L.drop ((bV s.c.L s.c.pt n)).toNat).take ((s.c.pt).toNat - ((bV s.c.L s.c.pt n)).toNat)).length : Int) = s.c.pt - (bV s.c.L s.c.pt n) := fun h9 => by simp only [List.length_take, List.length_drop]; omega
 refine gG func131 ntmps131 ?_
 dsimp only [bf, Nat.reduceAdd]
 refine ay (ah (aV rfl (aA (aj (ay ?_)))))
 have BR := H.drew
 have fA := aB.kp (BR.f3.f3.f3)
 refine yI [3, 8] fA rfl (iD 0 rfl fA rfl (jS 1 rfl fA rfl (gV 2 rfl fA 2 underlying79 rfl sizeOf3 rfl (jB 3 rfl fA (fun W hW => jR underlying3 rfl ((Kp.h hW)).get.2 rfl) (iD 4 rfl fA rfl (iD 5 rfl fA rfl (jS 6 rfl fA rfl (gV 7 rfl fA 4 underlying79 rfl sizeOf3 rfl (jB 8 rfl fA (fun W hW => jR underlying3 rfl ((Kp.h hW)).get.2 rfl) (kQ 9 rfl (wJ rfl func121 (tH BR.f2.f2 hT (by omega) (by omega))) ?_))))))))))
 rintro _ w1 ⟨rfl, H1⟩
 have IU := aB.kp (H1.f3.f3.f3)
 refine dZ IU (fun W hW => (Kp.h hW).f3.f3.f3) ?_
 refine jr 10 rfl IU (fun _ => eH rfl) (jr 11 rfl IU (fun _ => eH rfl) (qQ (aj (ay (ah (aN rfl (aV rfl (aA (aj (ay (ay (ah (aN rfl (bM rfl (bG 4 underlying79 rfl sizeOf3 rfl (dX underlying3 rfl (H1).get.2 rfl (aU (eF rfl rfl) (aA (aj (aP rfl (fun h1 => ?_) (fun h => by exfalso; (try simp only [aF] at h); omega)))))))))))))))))))))
 (try simp only [aF] at h1)
 have Fj := H1.drew
 have jL := aB.kp (Fj.f3.f3.f3)
 refine yI [4, 8] jL rfl (iD 0 rfl jL rfl (iD 1 rfl jL rfl (jS 2 rfl jL rfl (gV 3 rfl jL 2 underlying79 rfl sizeOf3 rfl (jB 4 rfl jL (fun W hW => jR underlying3 rfl ((Kp.h hW)).get.2 rfl) (iD 5 rfl jL rfl (jS 6 rfl jL rfl (gV 7 rfl jL 2 underlying79 rfl sizeOf3 rfl (jB 8 rfl jL (fun W hW => jR underlying3 rfl ((Kp.h hW)).get.2 rfl) (jr 9 rfl jL (fun _ => eH rfl) (jr 10 rfl jL (fun _ => eH rfl) (jr 11 rfl jL (fun _ => eH rfl) (qQ (aj (ay (ay (ah (aN rfl (aN rfl (aU (eF rfl rfl) (aA (aj (aP rfl (fun h2 => ?_) (fun h2 => ?_))))))))))))))))))))))))
 ·(try simp only [aF] at h2)
  have hlt := h2
  have abj := hxl hlt
  refine ay (ah (aV rfl (aA (aj (ay (ah (aV rfl (aA (aj (ay (ay ?_)))))))))))
  obtain ⟨cu, Nl⟩ : ∃ cu, cu = ni 1 ((bV s.c.L s.c.pt n)).toNat (s.c.pt).toNat lv := ⟨_, rfl⟩
  refine ah (aN rfl (bM rfl (bG 1 underlying79 rfl sizeOf22 rfl (dX underlying22 rfl (Fj).get.2 rfl (aN rfl (aN rfl (aU (Vs (uF ((Fj.f2).aS) underlying22 sizeOf21 rfl rfl rfl (by omega)) (Nl.symm)) (aU (jC (iw.as (iw.cut (i := ((bV s.c.L s.c.pt n)).toNat) (j := (s.c.pt).toNat) ((Fj.f2).aS) (by omega) (by omega)) Nl) underlying22 rfl) (aN rfl (aA (aj (bF ?_))))))))))))
  refine gQ [(0, _), (1, _), (5, _), (6, _), (7, _), (47, _), (48, _)] (fun (⟨u, k⟩ : Value × Nat) => [(8, u), (9, .bool (IV ((s.c.L.drop ((bV s.c.L s.c.pt n)).toNat).take ((s.c.pt).toNat - ((bV s.c.L s.c.pt n)).toNat)) k)), (49, .int .i64 (k : Int))]) (fun (⟨u, k⟩ : Value × Nat) W => k ≤ ((s.c.L.drop ((bV s.c.L s.c.pt n)).toNat).take ((s.c.pt).toNat - ((bV s.c.L s.c.pt n)).toNat)).length ∧ aB w0 W (gW 21 .i32 u (wo f false (((s.c.L.drop ((bV s.c.L s.c.pt n)).toNat).take ((s.c.pt).toNat - ((bV s.c.L s.c.pt n)).toNat)).take k)) • dH c (.cells #[.pointer (some ⟨e, 0, none⟩), lv, .int .i64 s.c.pt, .int .i64 m, .int .i64 n, .bool g, kv] 79 (0, 0)) • gW 21 .i32 lv s.c.L • dA e s • F)) (fun (⟨u, k⟩ : Value × Nat) => ((s.c.L.drop ((bV s.c.L s.c.pt n)).toNat).take ((s.c.pt).toNat - ((bV s.c.L s.c.pt n)).toNat)).length - k) ((.slice none 0 0, 0)) (Sub.cons rfl (Sub.cons rfl (Sub.cons rfl (Sub.cons rfl (Sub.cons rfl (Sub.cons rfl (Sub.cons rfl (Sub.nil _)))))))) (Sub.cons rfl (Sub.cons rfl (Sub.cons rfl (Sub.nil _)))) ⟨by omega, (Fj.f3.f3.f3).jf none⟩ ?_
  rintro ⟨u, k⟩ w2 ⟨hk, HL⟩
  dsimp only [List.cons_append, List.nil_append]
  refine ay (ah (aU (eF rfl rfl) (aA (aj (ay (aP rfl (fun h3 => ?_) (fun h3 => ?_)))))))
  ·(try simp only [aF] at h3)
   have hkl := h3
   have hcl := Oa f (((s.c.L.drop ((bV s.c.L s.c.pt n)).toNat).take ((s.c.pt).toNat - ((bV s.c.L s.c.pt n)).toNat)).take k) false
   rw [List.length_take, Nat.min_eq_left (by omega)] at hcl
   refine aO (aj (ay (bF (ay (ah ?_)))))
   obtain ⟨Y1, Y2, Y3, RD⟩ := iw.zn (iw.as (iw.cut (i := ((bV s.c.L s.c.pt n)).toNat) (j := (s.c.pt).toNat) ((HL.f3).aS) (by omega) (by omega)) Nl) (by omega)
   cases RD
   refine aU (gX underlying22 sizeOf21 rfl rfl (by omega)) ?_
   refine aU (kU (dB underlying21 rfl) rfl (by first | exact iw.GV (iw.as (iw.cut (i := ((bV s.c.L s.c.pt n)).toNat) (j := (s.c.pt).toNat) ((HL.f3).aS) (by omega) (by omega)) Nl) (by omega) | exact iw.UD (iw.as (iw.cut (i := ((bV s.c.L s.c.pt n)).toNat) (j := (s.c.pt).toNat) ((HL.f3).aS) (by omega) (by omega)) Nl) (by omega) | exact iw.SK (iw.as (iw.cut (i := ((bV s.c.L s.c.pt n)).toNat) (j := (s.c.pt).toNat) ((HL.f3).aS) (by omega) (by omega)) Nl) (by omega))) ?_
   refine aV rfl (aA (aj (ay (ah (aN rfl (aN rfl (aN rfl (aU (jY rfl) (aN rfl (iy (pI rfl rfl ((hf.2 _ _ _ _ HL))) ?_))))))))))
   rintro _ w3 ⟨rfl, H3⟩
   refine iy (bT (k := .i32) (l := [_]) H3 underlying22 sizeOf21 zeroValue21 rfl rfl rfl (by decide)) ?_
   rintro l4 w4 H4
   refine iy (kR H4.f2 ((H4).aS) underlying22 (show (prog.info? 21).map (fun i => (i.zero, i.size, i.bytes)) = some (some (.int .i32 0), 1, 4) by kernel_rfl) rfl rfl (by first | omega | (simp only [List.length_append, List.length_nil, List.length_cons]; omega) | (simp; omega)) (by first | omega | (simp only [List.length_append, List.length_nil, List.length_cons]; omega) | (simp; omega))) ?_
   rintro l5 w5 H5
   try simp only [List.nil_append] at H5
   refine aV rfl (aA (aj (ah (aN rfl (bW rfl func137 (yJ H5 hT) ?_)))))
   rintro _ w6 ⟨rfl, H6⟩
   refine aV rfl (aA (aQ (aj (ah (aU (fC rfl rfl (by omega)) (aN rfl (aA ?_)))))))
   refine eG ((l5, k + 1)) ?_ ?_ ?_ ?_
   ·exact (Sub.cons rfl (Sub.cons rfl (Sub.cons rfl (Sub.nil _))))
   ·exact (Sub.cons rfl (Sub.cons rfl (Sub.cons rfl (Sub.cons rfl (Sub.cons rfl (Sub.cons rfl (Sub.cons rfl (Sub.nil _))))))))
   ·(try dsimp only)
    first | done | exact ⟨by omega, by rw [Ky f (by omega)]; exact H6.f2.right.f4.f4.f4.f4⟩
   ·(try dsimp only); omega
  ·(try simp only [aF] at h3)
   have hkl := h3
   refine eU (aZ (aZ (bK (aj (ay ?_)))))
   have hall : ((s.c.L.drop ((bV s.c.L s.c.pt n)).toNat).take ((s.c.pt).toNat - ((bV s.c.L s.c.pt n)).toNat)).take k = ((s.c.L.drop ((bV s.c.L s.c.pt n)).toNat).take ((s.c.pt).toNat - ((bV s.c.L s.c.pt n)).toNat)) := List.take_of_length_le (by omega)
   refine ah (aN rfl (bM rfl (bG 0 underlying79 rfl sizeOf26 rfl (dX underlying26 rfl (HL.f2).get.2 rfl (aN rfl (aN rfl (aN rfl (bW rfl func127 (oq HL.f4 (fun W HW => (HW).aS)) ?_))))))))
   rintro _ w7 ⟨rfl, H7⟩
   refine aV rfl (aA (aj (ay (ah (aN rfl (aU (bY rfl rfl) (aA (aj (aP rfl (fun h4 => ?_) (fun h4 => ?_))))))))))
   ·(try simp only [aF] at h4)
    have hrr := h4
    refine ay (ah (aN rfl (aV rfl (aA (aj (aI (aK (aH (.inl rfl) results131 rfl ?_))))))))
    rw [hall] at hrr
    exact ⟨by rw [hall]; unfold bC.xk; rw [if_pos hlt, if_neg hrr], by have HX := H7.f2.right.f3.f3; rw [hall] at HX; unfold bC.xq; rw [if_pos hlt, if_neg hrr]; exact HX⟩
   ·(try simp only [aF] at h4)
    have hrr := h4
    refine aO (aj (ay (ah (aN rfl (bM rfl (bG 0 underlying79 rfl sizeOf26 rfl (dX underlying26 rfl (H7.f3).get.2 rfl (aN rfl (bW rfl func42 (jl H7) ?_)))))))))
    rintro _ w8 ⟨rfl, H8⟩
    refine aV rfl (aA (aj (aI (aH (.inl rfl) results131 rfl ?_))))
    first | (rw [hall] at hrr; exact ⟨by rw [hall]; unfold bC.xk; rw [if_pos hlt, if_pos hrr], by have HX := H8.f2.right.f3.f3; rw [hall] at HX; unfold bC.xq; rw [if_pos hlt, if_pos hrr]; exact HX⟩) | exact ⟨by unfold bC.xk; rw [if_neg (by omega)], by unfold bC.xq; rw [if_neg (by omega)]; exact H8.f2.right.f3.f3⟩
 ·(try simp only [aF] at h2)
  have hlt := h2
  refine aO (aj (ay (ah (aN rfl (bM rfl (bG 0 underlying79 rfl sizeOf26 rfl (dX underlying26 rfl (Fj).get.2 rfl (aN rfl (bW rfl func42 (jl Fj.f3) ?_)))))))))
  rintro _ w9 ⟨rfl, H9⟩
  refine aV rfl (aA (aj (aI (aH (.inl rfl) results131 rfl ?_))))
  first | (rw [hall] at hrr; exact ⟨by rw [hall]; unfold bC.xk; rw [if_pos hlt, if_pos hrr], by have HX := H9.f3.f3; rw [hall] at HX; unfold bC.xq; rw [if_pos hlt, if_pos hrr]; exact HX⟩) | exact ⟨by unfold bC.xk; rw [if_neg (by omega)], by unfold bC.xq; rw [if_neg (by omega)]; exact H9.f3.f3⟩
theorem xu (H : aB w0 w (dH c (.cells #[.pointer (some ⟨e, 0, none⟩), lv, .int .i64 s.c.pt, .int .i64 m, .int .i64 n, .bool g, kv] 79 (0, 0)) • gW 21 .i32 lv s.c.L • dA e s • F)) (hT : mD w0) (hf : EJ w0 fv f) (h3 : -1000000 ≤ n) (h4 : n ≤ 1000000) :
    fG prog 131 #[.pointer (some ⟨c, 0, none⟩), fv] w fun v w' => v = .int .i64 (s.AP f n) ∧ aB w0 w' (dH c (.cells #[.pointer (some ⟨e, 0, none⟩), lv, .int .i64 s.c.pt, .int .i64 m, .int .i64 n, .bool g, kv] 79 (0, 0)) • gW 21 .i32 lv s.c.L • dA e (s.AQ f n) • F) := by
  unfold bC.AP bC.AQ
  by_cases h : n < 0
  · rw [if_pos h, if_pos h]; exact BX H hT hf h3 h4 h
  · rw [if_neg h, if_neg h]; exact EK H hT hf h3 h4 (by omega)
theorem Pn {w0 : World} {keys : List Int} {s : bC} (hT : mD w0) : En w0 62 keys s (s.AP (fun _ => y7) s.count) (s.AQ (fun _ => y7) s.count) := by
 intro F w c e lv kv H hk
 have hco := rX (Em H.f3)
 refine gG func62 ntmps62 ?_
 dsimp only [bf, Nat.reduceAdd]
 refine ay (ah (aV rfl (aA (aj (ay (ah (aN rfl (bW rfl func131 (xu H hT Ur hco.1 hco.2) ?_))))))))
 rintro _ w1 ⟨rfl, H1⟩
 refine aV rfl (aA (aj (aI (aH (.inl rfl) results62 rfl ?_))))
 exact ⟨rfl, H1.f3.f3.f3⟩
theorem KA {w0 : World} {keys : List Int} {s : bC} (hT : mD w0) : En w0 63 keys s (s.AP (fun _ => xM) s.count) (s.AQ (fun _ => xM) s.count) := by
 intro F w c e lv kv H hk
 have hco := rX (Em H.f3)
 refine gG func63 ntmps63 ?_
 dsimp only [bf, Nat.reduceAdd]
 refine ay (ah (aV rfl (aA (aj (ay (ah (aN rfl (bW rfl func131 (xu H hT Pj hco.1 hco.2) ?_))))))))
 rintro _ w1 ⟨rfl, H1⟩
 refine aV rfl (aA (aj (aI (aH (.inl rfl) results63 rfl ?_))))
 exact ⟨rfl, H1.f3.f3.f3⟩
end
end Go.Proofs.YtgndbccogcofjaaGreatDoor
end
section
namespace Go.Proofs.YtgndbccogcofjaaGreatDoor
open Go.RowKit
theorem RF {g : Int → Bool} : ∀ {l : List Int} {n : Nat}, n < (l.takeWhile g).length → g (l.getD n 0) = true
  | [], n, h => by simp at h
  | x :: l, n, h => by
    by_cases hx : g x = true
    · rw [List.takeWhile_cons_of_pos hx] at h
      cases n with
      | zero => simpa using hx
      | succ n => rw [List.getD_cons_succ]; exact RF (by simpa using h)
    · rw [List.takeWhile_cons_of_neg hx] at h; simp at h
theorem RG {g : Int → Bool} : ∀ {l : List Int} {n : Nat}, n ≤ l.length → (∀ j, j < n → g (l.getD j 0) = true) → n ≤ (l.takeWhile g).length
  | l, 0, _, _ => by omega
  | [], n + 1, h, _ => by simp at h
  | x :: l, n + 1, h, k => by
    have h0 := k 0 (by omega)
    simp only [List.getD_cons_zero] at h0
    rw [List.takeWhile_cons_of_pos h0, List.length_cons]
    have := RG (l := l) (n := n) (by simpa using h) (fun j hj => by have := k (j + 1) (by omega); rwa [List.getD_cons_succ] at this)
    omega
theorem Gy (l : List Int) (i j : Nat) : (l.drop i).getD j 0 = l.getD (i + j) 0 := by simp [List.getD_eq_getElem?_getD]
theorem KC {g : Int → Bool} {l : List Int} {i j : Nat} (h1 : i ≤ j) (h2 : j < lX g l i) : g (l.getD j 0) = true := by
  unfold lX at h2
  have := RF (g := g) (l := l.drop i) (n := j - i) (by omega)
  rwa [Gy, show i + (j - i) = j from by omega] at this
theorem Ut {g : Int → Bool} {l : List Int} {i k : Nat} (h1 : i ≤ k) (h2 : k ≤ l.length) (h : ∀ j, i ≤ j → j < k → g (l.getD j 0) = true) : k ≤ lX g l i := by
  have := RG (g := g) (l := l.drop i) (n := k - i) (by simp; omega) (fun j hj => by rw [Gy]; exact h _ (by omega) (by omega))
  unfold lX; omega
theorem KD {l : List Int} {i j : Nat} (h : i ≤ l.length) (hj : j < i) : (l.take i).reverse.getD j 0 = l.getD (i - 1 - j) 0 := by
  rw [List.getD_eq_getElem?_getD, List.getElem?_reverse (by simp; omega), List.length_take, Nat.min_eq_left h, List.getElem?_take_of_lt (by omega), ← List.getD_eq_getElem?_getD]
theorem RH {g : Int → Bool} {l : List Int} {i j : Nat} (h : i ≤ l.length) (h1 : nD g l i ≤ j) (h2 : j < i) : g (l.getD j 0) = true := by
  unfold nD at h1
  have hle : ((l.take i).reverse.takeWhile g).length ≤ i := by
    have := (List.takeWhile_sublist g (l := (l.take i).reverse)).length_le
    simp at this; omega
  have := RF (g := g) (l := (l.take i).reverse) (n := i - 1 - j) (by omega)
  rwa [KD h (by omega), show i - 1 - (i - 1 - j) = j from by omega] at this
theorem Uu {g : Int → Bool} {l : List Int} {i k : Nat} (h : i ≤ l.length) (hk : k ≤ i) (h1 : ∀ j, k ≤ j → j < i → g (l.getD j 0) = true) : nD g l i ≤ k := by
  have := RG (g := g) (l := (l.take i).reverse) (n := i - k) (by simp; omega) (fun j hj => by rw [KD h (by omega)]; exact h1 _ (by omega) (by omega))
  unfold nD; omega
def Oc (l : List Int) : Prop := ∀ x ∈ l, x = 32 ∨ 97 ≤ x ∧ x ≤ 122
def qL (f : Int → Int) (l : List Int) (i j : Nat) : List Int := l.take i ++ ((l.drop i).take (j - i)).map f ++ l.drop j
theorem xO (f : Int → Int) {l : List Int} {i j : Nat} (h1 : i ≤ j) (h2 : j ≤ l.length) : (qL f l i j).length = l.length := by unfold qL; simp; omega
theorem yY (f : Int → Int) {l : List Int} {i j k : Nat} (h1 : i ≤ j) (h2 : j ≤ l.length) (hk : k < l.length) : (qL f l i j).getD k 0 = if i ≤ k ∧ k < j then f (l.getD k 0) else l.getD k 0 := by
  unfold qL
  rw [List.append_assoc]
  simp only [List.getD_eq_getElem?_getD]
  by_cases hi : k < i
  · rw [if_neg (by omega), List.getElem?_append_left (by simp; omega), List.getElem?_take_of_lt hi]
  · rw [List.getElem?_append_right (by simp; omega), List.length_take, Nat.min_eq_left (by omega)]
    by_cases hj : k < j
    · rw [if_pos (by omega), List.getElem?_append_left (by simp; omega), List.getElem?_map, List.getElem?_take_of_lt (by omega), List.getElem?_drop, show i + (k - i) = k from by omega, List.getElem?_eq_getElem hk]; rfl
    · rw [if_neg (by omega), List.getElem?_append_right (by simp; omega), List.length_map, List.length_take, List.length_drop, List.getElem?_drop]
      congr 2; omega
theorem zU {l : List Int} (h : Oc l) {k : Nat} (hk : k < l.length) : l.getD k 0 = 32 ∨ 97 ≤ l.getD k 0 ∧ l.getD k 0 ≤ 122 := by
  rw [List.getD_eq_getElem?_getD, List.getElem?_eq_getElem hk]; exact h _ (List.getElem_mem hk)
theorem RI {x : Int} (h : x = 32 ∨ 97 ≤ x ∧ x ≤ 122) : bg (y7 x) = bg x ∧ xM (y7 x) = x ∧ xM x = x := by
  rcases h with rfl | h
  · exact ⟨rfl, rfl, rfl⟩
  · have e : y7 x = x - 32 := by unfold y7; rw [if_pos (.inl h), IntKind.wrap_i32]; omega
    have e2 : xM (x - 32) = x := by unfold xM; rw [if_pos (.inl (by omega)), IntKind.wrap_i32]; omega
    refine ⟨?_, by rw [e, e2], by unfold xM; rw [if_neg (by omega)]⟩
    rw [e]; unfold bg
    rw [if_pos (by omega), if_pos (by omega)]
    rw [decide_eq_decide]; omega
theorem RJ {A : List Int} {p : Nat} (hA : Oc A) (hp : p ≤ A.length) :
    let q := dV A p
    let B := qL y7 A p q
    let b := jc B q
    qL xM B b (dV B b) = A ∧ p ≤ q ∧ q ≤ A.length ∧ b ≤ dV B b ∧ dV B b ≤ A.length ∧ B.length = A.length := by
  intro q B b
  have hq := Cm hp
  have hpq : p ≤ q := by by_cases h : p < A.length; exact Nat.le_of_lt (hq.2 h); have h9 : p = A.length := by omega
                         show p ≤ dV A p; unfold dV; rw [jW hp]; have h1 := mY (fun r => !bg r) A hp; have h2 := mY bg A h1.2; omega
  have Zi : q ≤ A.length := hq.1
  have hBl : B.length = A.length := xO y7 hpq Zi
  have hb := AO (l := B) (x := q) (by omega)
  have hbq : b ≤ q := hb.1
  have hq2 := Cm (l := B) (x := b) (by omega)
  have hb2 : b ≤ dV B b := by
    show b ≤ dV B b; unfold dV; rw [jW (by omega : b ≤ B.length)]; have h1 := mY (fun r => !bg r) B (by omega : b ≤ B.length); have h2 := mY bg B h1.2; omega
  have Y4 : ∀ k, k < A.length → bg (B.getD k 0) = bg (A.getD k 0) := fun k hk => by
    rw [yY y7 hpq Zi hk]
    split
    · exact (RI (zU hA hk)).1
    · rfl
  refine ⟨?_, hpq, Zi, hb2, by omega, hBl⟩
  apply List.ext_getElem?
  intro k
  by_cases hk : k < A.length
  · have e : (qL xM B b (dV B b)).getD k 0 = A.getD k 0 := by
      rw [yY xM hb2 hq2.1 (by omega), yY y7 hpq Zi hk]
      have hlow := RI (zU hA hk)
      by_cases hc : p ≤ k ∧ k < q
      · rw [if_pos hc]
        split
        · exact hlow.2.1
        · rename_i hn
          by_cases hl : bg (A.getD k 0) = true
          · exfalso
            apply hn
            have hr := mY (fun r => !bg r) A hp
            have hwq : q = lX bg A (lX (fun r => !bg r) A p) := by show dV A p = _; unfold dV; rw [jW hp]
            have hkr : lX (fun r => !bg r) A p ≤ k := by
              by_cases h9 : k < lX (fun r => !bg r) A p
              · have := KC hc.1 h9
                simp only [hl] at this; exact absurd this (by decide)
              · omega
            have hlet : ∀ j, k ≤ j → j < q → bg (B.getD j 0) = true := fun j h1 h2 => by
              rw [Y4 j (by omega)]; rw [hwq] at h2; exact KC (by omega) h2
            have hin : nD (fun r => !bg r) B q = q := back_eq (Nat.le_refl _) (by omega) (fun j h1 h2 => by omega) (.inr (by show (!bg _) = false; rw [hlet (q - 1) (by omega) (by omega)]; rfl))
            have hbe : b = nD bg B q := by show jc B q = _; unfold jc; rw [jW (by omega : q ≤ B.length), hin]
            have hbk : b ≤ k := by rw [hbe]; exact Uu (by omega) (by omega) hlet
            have Vj : ∀ j, b ≤ j → j < q → bg (B.getD j 0) = true := fun j h1 h2 => by rw [hbe] at h1; exact RH (by omega) h1 h2
            have hov : lX (fun r => !bg r) B b = b := xG (Nat.le_refl _) (by omega) (fun j h1 h2 => by omega) (.inr (by show (!bg _) = false; rw [Vj b (by omega) (by omega)]; rfl))
            have he : dV B b = lX bg B b := by unfold dV; rw [jW (by omega : b ≤ B.length), hov]
            have := Ut (g := bg) (l := B) (i := b) (k := q) hbq (by omega) Vj
            omega
          ·
            have h32 : A.getD k 0 = 32 := by
              rcases zU hA hk with h | h
              · exact h
              · exfalso; apply hl; unfold bg; rw [if_pos (by omega)]; exact decide_eq_true (by omega)
            rw [h32]; rfl
      · rw [if_neg hc]
        split
        · exact hlow.2.2
        · rfl
    have hl2 : (qL xM B b (dV B b)).length = A.length := by rw [xO xM hb2 hq2.1, hBl]
    rw [List.getD_eq_getElem?_getD, List.getD_eq_getElem?_getD, List.getElem?_eq_getElem hk, List.getElem?_eq_getElem (by omega)] at e
    rw [List.getElem?_eq_getElem hk, List.getElem?_eq_getElem (by omega)]
    exact congrArg some e
  · have hl2 : (qL xM B b (dV B b)).length = A.length := by rw [xO xM hb2 hq2.1, hBl]
    rw [List.getElem?_eq_none (by omega), List.getElem?_eq_none (by omega)]
end Go.Proofs.YtgndbccogcofjaaGreatDoor
end
section
namespace Go.Proofs.YtgndbccogcofjaaGreatDoor
open Go.RowKit
open _root_.Go.Proofs.Tryz
def lU : ByteArray := ⟨#[102, 111, 114, 119, 97, 114, 100, 45, 99, 104, 97, 114]⟩
theorem jX : wP lU = some (.func (.func 50) #[] #[]) := by kernel_rfl
theorem kY : oz lU 1 = 0 := oC (by rw [jX]; rfl) (by rintro (h | ⟨h | h | h, -⟩); omega; exact absurd h (by rw [ByteArray.toList_eq, ByteArray.toList_eq]; decide); exact absurd h (by rw [ByteArray.toList_eq, ByteArray.toList_eq]; decide); exact absurd h (by rw [ByteArray.toList_eq, ByteArray.toList_eq]; decide))
theorem qy {w0 : World} {keys : List Int} {s : bC} (hT : mD w0) : Ko w0 (.func (.func 50) #[] #[]) keys s (s.IX s.count) (s.IY s.count) := fun F W c e lv kv H hk => ⟨_, [], [], _, _, rfl, func50, rfl, rfl, EI hT F W c e lv kv H hk⟩
def bC.bU (s : bC) : Int := (s.aW.IY s.aW.count).mG (s.aW.IX s.aW.count)
def bC.gJ (s : bC) : bC := (s.aW.IY s.aW.count).iE (s.aW.IX s.aW.count)
def rJ : ByteArray := ⟨#[98, 97, 99, 107, 119, 97, 114, 100, 45, 99, 104, 97, 114]⟩
theorem mV : wP rJ = some (.func (.func 51) #[] #[]) := by kernel_rfl
theorem oD : oz rJ 1 = 0 := oC (by rw [mV]; rfl) (by rintro (h | ⟨h | h | h, -⟩); omega; exact absurd h (by rw [ByteArray.toList_eq, ByteArray.toList_eq]; decide); exact absurd h (by rw [ByteArray.toList_eq, ByteArray.toList_eq]; decide); exact absurd h (by rw [ByteArray.toList_eq, ByteArray.toList_eq]; decide))
theorem wu {w0 : World} {keys : List Int} {s : bC} (hT : mD w0) : Ko w0 (.func (.func 51) #[] #[]) keys s (s.IX (-s.count)) (s.IY (-s.count)) := fun F W c e lv kv H hk => ⟨_, [], [], _, _, rfl, func51, rfl, rfl, Kv hT F W c e lv kv H hk⟩
def bC.AU (s : bC) : Int := (s.aW.IY (-s.aW.count)).mG (s.aW.IX (-s.aW.count))
def bC.AV (s : bC) : bC := (s.aW.IY (-s.aW.count)).iE (s.aW.IX (-s.aW.count))
def qA : ByteArray := ⟨#[117, 112, 99, 97, 115, 101, 45, 119, 111, 114, 100]⟩
theorem jM : wP qA = some (.func (.func 62) #[] #[]) := by kernel_rfl
theorem jO : oz qA 1 = 0 := oC (by rw [jM]; rfl) (by rintro (h | ⟨h | h | h, -⟩); omega; exact absurd h (by rw [ByteArray.toList_eq, ByteArray.toList_eq]; decide); exact absurd h (by rw [ByteArray.toList_eq, ByteArray.toList_eq]; decide); exact absurd h (by rw [ByteArray.toList_eq, ByteArray.toList_eq]; decide))
theorem qM {w0 : World} {keys : List Int} {s : bC} (hT : mD w0) : Ko w0 (.func (.func 62) #[] #[]) keys s (s.AP (fun _ => y7) s.count) (s.AQ (fun _ => y7) s.count) := fun F W c e lv kv H hk => ⟨_, [], [], _, _, rfl, func62, rfl, rfl, Pn hT F W c e lv kv H hk⟩
def bC.Oe (s : bC) : Int := (s.aW.AQ (fun _ => y7) s.aW.count).mG (s.aW.AP (fun _ => y7) s.aW.count)
def bC.mZ (s : bC) : bC := (s.aW.AQ (fun _ => y7) s.aW.count).iE (s.aW.AP (fun _ => y7) s.aW.count)
def kS : ByteArray := ⟨#[100, 111, 119, 110, 99, 97, 115, 101, 45, 119, 111, 114, 100]⟩
theorem iM : wP kS = some (.func (.func 63) #[] #[]) := by kernel_rfl
theorem iW : oz kS 1 = 0 := oC (by rw [iM]; rfl) (by rintro (h | ⟨h | h | h, -⟩); omega; exact absurd h (by rw [ByteArray.toList_eq, ByteArray.toList_eq]; decide); exact absurd h (by rw [ByteArray.toList_eq, ByteArray.toList_eq]; decide); exact absurd h (by rw [ByteArray.toList_eq, ByteArray.toList_eq]; decide))
theorem lH {w0 : World} {keys : List Int} {s : bC} (hT : mD w0) : Ko w0 (.func (.func 63) #[] #[]) keys s (s.AP (fun _ => xM) s.count) (s.AQ (fun _ => xM) s.count) := fun F W c e lv kv H hk => ⟨_, [], [], _, _, rfl, func63, rfl, rfl, KA hT F W c e lv kv H hk⟩
def bC.Gz (s : bC) : Int := (s.aW.AQ (fun _ => xM) s.aW.count).mG (s.aW.AP (fun _ => xM) s.aW.count)
def bC.GH (s : bC) : bC := (s.aW.AQ (fun _ => xM) s.aW.count).iE (s.aW.AP (fun _ => xM) s.aW.count)
def kT : ByteArray := ⟨#[98, 97, 99, 107, 119, 97, 114, 100, 45, 119, 111, 114, 100]⟩
theorem iO : wP kT = some (.func (.func 53) #[] #[]) := by kernel_rfl
theorem iY : oz kT 1 = 0 := oC (by rw [iO]; rfl) (by rintro (h | ⟨h | h | h, -⟩); omega; exact absurd h (by rw [ByteArray.toList_eq, ByteArray.toList_eq]; decide); exact absurd h (by rw [ByteArray.toList_eq, ByteArray.toList_eq]; decide); exact absurd h (by rw [ByteArray.toList_eq, ByteArray.toList_eq]; decide))
theorem lI {w0 : World} {keys : List Int} {s : bC} (hT : mD w0) : Ko w0 (.func (.func 53) #[] #[]) keys s (s.nK (bV s.c.L s.c.pt (-s.count))) (s.kN (bV s.c.L s.c.pt (-s.count))) := fun F W c e lv kv H hk => ⟨_, [], [], _, _, rfl, func53, rfl, rfl, Kw hT F W c e lv kv H hk⟩
def bC.xP (s : bC) : Int := (s.aW.kN (bV s.aW.c.L s.aW.c.pt (-s.aW.count))).mG (s.aW.nK (bV s.aW.c.L s.aW.c.pt (-s.aW.count)))
def bC.lV (s : bC) : bC := (s.aW.kN (bV s.aW.c.L s.aW.c.pt (-s.aW.count))).iE (s.aW.nK (bV s.aW.c.L s.aW.c.pt (-s.aW.count)))
structure At (s : bC) (L : List Int) (p : Int) : Prop where
  dU : s.dU = false
  given : s.given = false
  L : s.c.L = L
  pt : s.c.pt = p
section
variable {s : bC} {L : List Int} {p x : Int}
theorem At.move (h : At s L p) (hx : 0 ≤ x ∧ x ≤ L.length) : (s.aW.kN x).mG (s.aW.nK x) = 0 ∧ At ((s.aW.kN x).iE (s.aW.nK x)) L x := by
  have hi := nC s
  have e : s.aW.nK x = 0 := by unfold bC.nK; rw [if_pos hi, dR, h.L]; exact Vh hx
  have hm : s.aW.kN x = s.aW.iV L x s.aW.c.mark := by
    unfold bC.kN
    rw [if_pos hi, dR, h.L]
    unfold RY; rw [if_pos hx]
  rw [e, hm]
  have hi2 : (s.aW.iV L x s.aW.c.mark).dU = true := hi
  refine ⟨by unfold bC.mG; rw [if_pos hi2], vk _ hi2, vZ _ hi2 (rD h.dU), (Ew _ hi2).trans rfl, zQ _ hi2⟩
theorem At.fail (h : At s L p) : s.aW.mG 6 = 6 ∧ At (s.aW.iE 6) L p := by
  have hi := nC s
  have e : s.aW.iE 6 = s.aW.uh := by unfold bC.iE; rw [if_pos hi, if_neg (by decide)]
  refine ⟨by unfold bC.mG; rw [if_pos hi], Kt hi _, by rw [e]; rfl, (MJ h.dU).trans h.L, ?_⟩
  rw [e]; unfold bC.uh; rw [rG h.dU]; exact h.pt
theorem At.chg (h : At s L p) {f : Int → Int} {i j : Nat} {en : Int} (hL : L.length ≤ 1024) (hij : i ≤ j) (hj : j ≤ L.length) (hen : 0 ≤ en ∧ en ≤ L.length) :
    (s.aW.xq (fun _ => f) i j en).mG (s.aW.xk (fun _ => f) i j en) = 0 ∧ At ((s.aW.xq (fun _ => f) i j en).iE (s.aW.xk (fun _ => f) i j en)) (qL f L i j) en := by
  have hi := nC s
  unfold bC.xq bC.xk
  by_cases hlt : (i : Int) < j
  · have hout : ∀ (l : List Int) (a : Bool), wo (fun _ => f) a l = l.map f := fun l => by
      induction l with
      | nil => intro a; rfl
      | cons x l ih => intro a; show f x :: wo (fun _ => f) (bg x) l = _; rw [ih]; rfl
    have hc2 : s.aW.MK i j = (L.drop i).take (j - i) := by show (s.aW.c.L.drop _).take _ = _; rw [dR, h.L]; rfl
    rw [if_pos hlt, if_pos hlt, hout, hc2]
    generalize hO : ((L.drop i).take (j - i)).map f = O
    have hOl : O.length = j - i := by rw [← hO]; simp; omega
    have hE : jw L i j O = 0 := by unfold jw; rw [if_neg (by omega), if_neg (by omega)]
    have e1 : s.aW.jF i j O = 0 := by unfold bC.jF; rw [if_pos hi, dR, h.L]; exact hE
    rw [if_pos e1, if_pos e1]
    obtain ⟨r1, r2, r3, r4, r5, r6, r7, r8⟩ := NV hi i j O
    have hRL : (s.aW.iC i j O).c.L = qL f L i j := by
      rw [r1, dR, h.L]; unfold mP qL; rw [if_pos hE, hO]; rfl
    have hlen := xO f hij hj
    have e2 : (s.aW.iC i j O).nK en = 0 := by unfold bC.nK; rw [if_pos r6, hRL, hlen]; exact Vh hen
    have hm : (s.aW.iC i j O).kN en = (s.aW.iC i j O).iV (qL f L i j) en (s.aW.iC i j O).c.mark := by
      unfold bC.kN
      rw [if_pos r6, hRL, hlen]
      unfold RY; rw [if_pos hen]
    rw [e2, hm]
    have hi2 : ((s.aW.iC i j O).iV (qL f L i j) en (s.aW.iC i j O).c.mark).dU = true := r6
    exact ⟨by unfold bC.mG; rw [if_pos hi2], vk _ hi2, vZ _ hi2 ((N7 _ _ _ _).trans (rD h.dU)), (Ew _ hi2).trans rfl, zQ _ hi2⟩
  · rw [if_neg hlt, if_neg hlt]
    have e : qL f L i j = L := by
      unfold qL; rw [show j - i = 0 from by omega, show j = i from by omega]; simp
    rw [e]
    exact h.move hen
theorem At.cas (h : At s L p) {f : Int → Int} (hL : L.length ≤ 1024) {i : Nat} (hp : p = i) (hi : i ≤ L.length) :
    (s.aW.AQ (fun _ => f) s.aW.count).mG (s.aW.AP (fun _ => f) s.aW.count) = 0 ∧ At ((s.aW.AQ (fun _ => f) s.aW.count).iE (s.aW.AP (fun _ => f) s.aW.count)) (qL f L i (dV L i)) (dV L i : Nat) := by
  rw [lG h.dU h.given]
  unfold bC.AQ bC.AP
  rw [if_neg (by decide), if_neg (by decide), EF, dR, h.L, h.pt, hp]
  have hb := Cm hi
  have hge : i ≤ dV L i := by
    by_cases h9 : i < L.length
    · exact Nat.le_of_lt (hb.2 h9)
    · unfold dV; rw [jW hi]
      have h1 := mY (fun r => !bg r) L hi
      have h2 := mY bg L h1.2
      omega
  exact h.chg hL hge hb.1 (by unfold BA; omega)
theorem At.RN (h : At s L p) {i : Nat} (hp : p = i) (hi : i ≤ L.length) : s.xP = 0 ∧ At s.lV L (jc L i : Nat) := by
  unfold bC.xP bC.lV
  rw [lG h.dU h.given, EG, dR, h.L, h.pt, hp]
  have hb := AO hi
  exact h.move (by unfold tu; omega)
theorem EL {x : Int} (h : x = 32 ∨ 97 ≤ x ∧ x ≤ 122) : jv x = true := by
  rcases h with rfl | h
  · kernel_rfl
  · obtain ⟨k, rfl, hk⟩ : ∃ k : Nat, x = 97 + (k : Int) ∧ k < 26 := ⟨(x - 97).toNat, by omega, by omega⟩
    have hall : ((List.range 26).all fun k => jv (97 + ((k : Nat) : Int))) = true := by kernel_rfl
    exact List.all_eq_true.1 hall k (List.mem_range.2 hk)
theorem RP {A : List Int} (hA : Oc A) {i : Nat} (hi : i < A.length) : EH A i = ((i + 1 : Nat) : Int) := by
  unfold EH Dq
  rw [jW (Nat.le_of_lt hi), if_pos hi]
  congr 1
  exact xG (Nat.le_refl _) (by omega) (fun j h1 h2 => by omega) (if h : i + 1 = A.length then .inl h else .inr (by show (!jv _) = false; rw [EL (zU hA (by omega))]; rfl))
theorem RQ {A : List Int} (hA : Oc A) {i : Nat} (hi : i < A.length) : Ku A ((i + 1 : Nat) : Int) = (i : Int) := by
  unfold Ku Jp
  rw [jW hi]
  have e : nD (fun r => !jv r) A (i + 1) = i + 1 := back_eq (Nat.le_refl _) hi (fun j h1 h2 => by omega) (.inr (by show (!jv _) = false; rw [EL (zU hA (by omega))]; rfl))
  rw [e]; rfl
theorem EM (l : List Int) (p : Int) : iF l p 1 = EH l p := by unfold iF; rw [if_pos (by decide)]; exact zT _ _ _
theorem ML (l : List Int) (p : Int) : iF l p (-1) = Ku l p := by unfold iF; rw [if_neg (by decide)]; exact zT _ _ _
theorem At.fwd (h : At s L p) (hA : Oc L) {i : Nat} (hp : p = i) (hi : i < L.length) : s.bU = 0 ∧ At s.gJ L ((i + 1 : Nat) : Int) := by
  unfold bC.bU bC.gJ bC.IX bC.IY
  rw [lG h.dU h.given, EM, dR, h.L, h.pt, hp, RP hA hi, if_neg (by omega), if_neg (by omega)]
  exact h.move (by omega)
theorem At.Uw (h : At s L p) {i : Nat} (hp : p = i) (hi : i = L.length) : s.bU = 6 ∧ At s.gJ L i := by
  unfold bC.bU bC.gJ bC.IX bC.IY
  have e : EH L i = (i : Int) := by unfold EH Dq; rw [jW (by omega), if_neg (by omega), hi]
  rw [lG h.dU h.given, EM, dR, h.L, h.pt, hp, e, if_pos ⟨by decide, rfl⟩, if_pos ⟨by decide, rfl⟩]
  exact hp ▸ h.fail
theorem At.bwd (h : At s L p) (hA : Oc L) {i : Nat} (hp : p = ((i + 1 : Nat) : Int)) (hi : i < L.length) : s.AU = 0 ∧ At s.AV L i := by
  unfold bC.AU bC.AV bC.IX bC.IY
  rw [lG h.dU h.given, ML, dR, h.L, h.pt, hp, RQ hA hi, if_neg (by omega), if_neg (by omega)]
  exact h.move (by omega)
theorem Ux {l : List Int} {i : Nat} (hl : l.length ≤ 1024) (hi : i ≤ l.length) : At (NW [] l i) l i := by
  unfold NW bC.Vg
  have h0 : At (AB [] l) l (AB [] l).c.pt := ⟨by rw [start_eq hl]; rfl, by rw [start_eq hl]; rfl, by rw [start_eq hl]; rfl, rfl⟩
  exact (h0.move (x := i) (by omega)).2
theorem At.all (h : At s L p) (hA : Oc L) {i : Nat} (hL : L.length ≤ 1024) (hp : p = i) (hi : i ≤ L.length) :
    s.Oe = 0 ∧ s.mZ.dU = false ∧ s.mZ.xP = 0 ∧ s.mZ.lV.dU = false ∧ s.mZ.lV.Gz = 0 ∧ s.mZ.lV.GH.c.L = L := by
  obtain ⟨k0, k1, k2, k3, k4, k5⟩ := RJ hA hi
  have a1 := h.cas (f := y7) hL hp hi
  have a2 := At.RN (s := s.mZ) a1.2 rfl (by rw [k5]; exact k2)
  have a3 := At.cas (s := s.mZ.lV) a2.2 (f := xM) (by rw [k5]; exact hL) rfl (by rw [k5]; omega)
  exact ⟨a1.1, a1.2.dU, a2.1, a2.2.dU, a3.1, a3.2.L.trans k0⟩
def xZ (b : Int) : Int := if b % 6 = 0 then 32 else 97 + b % 26
theorem Uy {bs : List Int} : Oc (bs.map xZ) := fun x hx => by
  obtain ⟨b, -, rfl⟩ := List.mem_map.1 hx
  unfold xZ; split
  · exact .inl rfl
  · right; omega
theorem RS {l : List Int} (h : Oc l) (n : Nat) : Oc (l.take n) := fun x hx => h x (List.mem_of_mem_take hx)
end
end Go.Proofs.YtgndbccogcofjaaGreatDoor
end
