import Derived.Test.YtnhhmieghbfalaaGreatZ4
import Derived.Test.YtnhhmieghbfalaaGreatZ15
import Derived.Test.YtnhhmieghbfalaaGreatZ16
import Derived.Test.YtnhhmieghbfalaaGreatZ10
import Derived.Test.YtnhhmieghbfalaaGreatZ12
import Derived.Test.YtnhhmieghbfalaaGreatZ14
set_option linter.unusedSimpArgs false
set_option linter.unusedVariables false
/- Texts of mine, joined, their names in short: REd REdX RLs2 REdA REd0 EBoth0 REdB. -/
section
namespace Go.Proofs.YtnhhmieghbfalaaGreat
open Go.RowKit
def pV (hl : List o7) (tx : Int → Option ByteArray) : List ByteArray := (List.range (hl.length + 1)).map fun (k : Nat) => iK hl tx (k : Int)
theorem Bg (hl : List o7) (tx : Int → Option ByteArray) : (pV hl tx).length = hl.length + 1 := by simp [pV]
theorem Bh (hl : List o7) : (nN hl).length = hl.length + 1 := by simp [nN]
theorem Md {hl : List o7} {tx : Int → Option ByteArray} {k : Nat} (hk : k ≤ hl.length) : (pV hl tx).getD k .empty = iK hl tx k := by
  unfold pV
  rw [List.getD_eq_getElem?_getD, List.getElem?_map, List.getElem?_range (by omega)]; rfl
theorem SY {hl : List o7} {k : Nat} (hk : k ≤ hl.length) : (nN hl).getD k .empty = yB hl k := by
  unfold nN yB Rh
  by_cases h : k < hl.length
  · rw [if_pos (by omega), List.getD_eq_getElem?_getD, List.getElem?_append_left (by simpa using h), List.getElem?_map, List.getElem?_eq_getElem h]
    simp [List.getD_eq_getElem?_getD, h]
  · obtain rfl : k = hl.length := by omega
    rw [if_neg (by omega), List.getD_eq_getElem?_getD, List.getElem?_append_right (by simp)]
    simp
theorem Me (hl : List o7) : pV hl (fun _ => none) = nN hl := by
  apply List.ext_getElem?
  intro k
  by_cases h : k ≤ hl.length
  · have h1 := Md (tx := fun _ => none) h
    have h2 := SY h
    rw [List.getD_eq_getElem?_getD, List.getElem?_eq_getElem (by rw [Bg]; omega)] at h1
    rw [List.getD_eq_getElem?_getD, List.getElem?_eq_getElem (by rw [Bh]; omega)] at h2
    rw [List.getElem?_eq_getElem (by rw [Bg]; omega), List.getElem?_eq_getElem (by rw [Bh]; omega)]
    simp only [Option.getD_some] at h1 h2
    rw [h1, h2]; rfl
  · rw [List.getElem?_eq_none (by rw [Bg]; omega), List.getElem?_eq_none (by rw [Bh]; omega)]
def Gx (c : pU) : Prop := (∀ k, fQ (c.un k) [] ≤ 16384 ∧ ∀ g ∈ c.un k, g ≠ []) ∧ (c.E.length ≤ 60 ∧ (c.at_ < c.E.length ∨ c.at_ = 0) ∧ ∀ e ∈ c.E, e.length ≤ 1024)
def RX (s : bP) : Prop := Gx s.c ∧ (s.inn = true → Gx s.was ∧ s.c.last = s.was.last ∧ (s.kZ = false → s.c.fr = s.was.fr ∧ s.c.to = s.was.to)) ∧ (s.inn = true → s.cls = 2 → s.kZ = true)
def wC (hl : List o7) (A : List LE) : Prop := (A.map (·.1)).Nodup ∧ ∀ x ∈ A.map (·.1), 0 ≤ x ∧ x ≤ (hl.length : Int)
def Il (pb pk : Nat) (wv nv pv gv : Value) (hl : List o7) (c : pU) : List Value := [.pointer (some ⟨pb, 0, none⟩), .pointer (some ⟨pk, 0, none⟩), wv, nv, .int .i64 c.place, .string (iK hl c.tx c.place), pv, gv, .int .i64 c.mode, .bool c.over, .int .i64 c.res, .bool c.run]
structure ROP where
  pb : Nat
  pk : Nat
  wv : Value
  nv : Value
  pv : Value
  gv : Value
  A : List LE
def Ep (inn : Bool) (hl : List o7) (c : pU) (u : List Value) : HP := if inn = true then wF fun (x : ROP) => fact (u = Il x.pb x.pk x.wv x.nv x.pv x.gv hl c ∧ CS x.A = c.un ∧ wC hl x.A ∧ (u.all fun x => x.oneCell') = true) •
  kN x.pb c.L c.pt c.mark • lF x.pk c.E c.at_ • tY 1 x.wv (hl.length + 1) (strs (nN hl)) • Row 9 1 x.nv (hl.length + 1) (strs (pV hl c.tx)) • qK .i64 x.pv (x.A.map (·.1)) • tY 1 x.gv x.A.length (x.A.map (·.2.1)) • rW x.A else fact ((u.all fun x => x.oneCell') = true)
structure gB (s : bP) (es : List fB) (A : List LE) (yf yt : Int) : Prop where
  ok : o8 s
  rx : RX s
  says : es.map fB.says = s.put
  CS : CS A = s.c.un
  placed : wC s.hl A
  Ju : s.inn = true → s.kZ = true → yf = s.c.fr ∧ yt = s.c.to
structure RdP where
  h : Nat
  pb : Nat
  pk : Nat
  wv : Value
  nv : Value
  pv : Value
  gv : Value
  A : List LE
  nw : Value
  es : List fB
  yf : Int
  yt : Int
  ch : Bool
  u0 : Value
  u1 : Value
  u2 : Value
  u3 : Value
  u4 : Value
  u5 : Value
  u6 : Value
  u7 : Value
  u8 : Value
  u9 : Value
  ua : Value
  ub : Value
def iT (y : Nat) (s : bP) : HP := wF fun (x : RdP) => match x with
  | ⟨h, pb, pk, wv, nv, pv, gv, A, nw, es, yf, yt, ch, u0, u1, u2, u3, u4, u5, u6, u7, u8, u9, ua, ub⟩ => fact (gB s es A yf yt) • eF y (.cells (.pointer (some ⟨h, 0, none⟩) :: .pointer (some ⟨pb, 0, none⟩) :: .pointer (some ⟨pk, 0, none⟩) :: wv :: nv :: .int .i64 s.c.place :: .string (iK s.hl s.c.tx s.c.place) :: pv :: gv :: .int .i64 s.c.mode :: .bool s.c.over :: .int .i64 s.c.res :: .bool s.c.run :: u0 :: u1 :: u2 :: u3 :: u4 :: u5 :: u6 :: u7 :: u8 :: u9 :: ua :: ub :: .bool s.given :: .bool s.minus :: .int .i64 s.arg :: .int .i64 s.xI :: .int .i64 s.Uo :: .int .i64 s.Ur :: .int .i64 s.nZ :: .bool s.inn :: .int .i64 s.cls :: .int .i64 yf :: .int .i64 yt :: .bool s.argues :: .bool s.kJ :: .bool s.kZ :: nw :: .bool s.whole :: .bool ch :: []).toArray 85 (0, 0)) • kN pb s.c.L s.c.pt s.c.mark • lF pk s.c.E s.c.at_ • tY 1 wv (s.hl.length + 1) (strs (nN s.hl)) • Row 9 1 nv (s.hl.length + 1) (strs (pV s.hl s.c.tx)) • qK .i64 pv (A.map (·.1)) • tY 1 gv A.length (A.map (·.2.1)) • rW A • jf h s.hl s.base s.most • Row 130 3 nw s.put.length (es.flatMap fB.enc) • nP es • Ep s.inn s.hl s.was [u0, u1, u2, u3, u4, u5, u6, u7, u8, u9, ua, ub]
section
variable {w0 w : World} {F : HP} {y : Nat} {s : bP}
theorem V.Bj (H : V w0 w (iT y s • F)) : ∃ h pb pk wv nv pv gv A nw es yf yt ch u0 u1 u2 u3 u4 u5 u6 u7 u8 u9 ua ub, gB s es A yf yt ∧ es.length = s.put.length ∧ V w0 w (eF y (.cells (.pointer (some ⟨h, 0, none⟩) :: .pointer (some ⟨pb, 0, none⟩) :: .pointer (some ⟨pk, 0, none⟩) :: wv :: nv :: .int .i64 s.c.place :: .string (iK s.hl s.c.tx s.c.place) :: pv :: gv :: .int .i64 s.c.mode :: .bool s.c.over :: .int .i64 s.c.res :: .bool s.c.run :: u0 :: u1 :: u2 :: u3 :: u4 :: u5 :: u6 :: u7 :: u8 :: u9 :: ua :: ub :: .bool s.given :: .bool s.minus :: .int .i64 s.arg :: .int .i64 s.xI :: .int .i64 s.Uo :: .int .i64 s.Ur :: .int .i64 s.nZ :: .bool s.inn :: .int .i64 s.cls :: .int .i64 yf :: .int .i64 yt :: .bool s.argues :: .bool s.kJ :: .bool s.kZ :: nw :: .bool s.whole :: .bool ch :: []).toArray 85 (0, 0)) • kN pb s.c.L s.c.pt s.c.mark • lF pk s.c.E s.c.at_ • tY 1 wv (s.hl.length + 1) (strs (nN s.hl)) • Row 9 1 nv (s.hl.length + 1) (strs (pV s.hl s.c.tx)) • qK .i64 pv (A.map (·.1)) • tY 1 gv A.length (A.map (·.2.1)) • rW A • jf h s.hl s.base s.most • Row 130 3 nw s.put.length (es.flatMap fB.enc) • nP es • Ep s.inn s.hl s.was [u0, u1, u2, u3, u4, u5, u6, u7, u8, u9, ua, ub] • F) := by
  obtain ⟨⟨h, pb, pk, wv, nv, pv, gv, A, nw, es, yf, yt, ch, u0, u1, u2, u3, u4, u5, u6, u7, u8, u9, ua, ub⟩, H⟩ := H.oN
  obtain ⟨h1, H⟩ := H.flat.fact
  refine ⟨h, pb, pk, wv, nv, pv, gv, A, nw, es, yf, yt, ch, u0, u1, u2, u3, u4, u5, u6, u7, u8, u9, ua, ub, h1, ?_, ?_⟩
  · rw [← h1.says]; simp
  · exact H.of_eq (by simp only [dI])
theorem V.lu {h pb pk : Nat} {wv nv pv gv : Value} {A : List LE} {nw : Value} {es : List fB} {yf yt : Int} {ch : Bool} {u0 u1 u2 u3 u4 u5 u6 u7 u8 u9 ua ub : Value} (h1 : gB s es A yf yt) (H : V w0 w (eF y (.cells (.pointer (some ⟨h, 0, none⟩) :: .pointer (some ⟨pb, 0, none⟩) :: .pointer (some ⟨pk, 0, none⟩) :: wv :: nv :: .int .i64 s.c.place :: .string (iK s.hl s.c.tx s.c.place) :: pv :: gv :: .int .i64 s.c.mode :: .bool s.c.over :: .int .i64 s.c.res :: .bool s.c.run :: u0 :: u1 :: u2 :: u3 :: u4 :: u5 :: u6 :: u7 :: u8 :: u9 :: ua :: ub :: .bool s.given :: .bool s.minus :: .int .i64 s.arg :: .int .i64 s.xI :: .int .i64 s.Uo :: .int .i64 s.Ur :: .int .i64 s.nZ :: .bool s.inn :: .int .i64 s.cls :: .int .i64 yf :: .int .i64 yt :: .bool s.argues :: .bool s.kJ :: .bool s.kZ :: nw :: .bool s.whole :: .bool ch :: []).toArray 85 (0, 0)) • kN pb s.c.L s.c.pt s.c.mark • lF pk s.c.E s.c.at_ • tY 1 wv (s.hl.length + 1) (strs (nN s.hl)) • Row 9 1 nv (s.hl.length + 1) (strs (pV s.hl s.c.tx)) • qK .i64 pv (A.map (·.1)) • tY 1 gv A.length (A.map (·.2.1)) • rW A • jf h s.hl s.base s.most • Row 130 3 nw s.put.length (es.flatMap fB.enc) • nP es • Ep s.inn s.hl s.was [u0, u1, u2, u3, u4, u5, u6, u7, u8, u9, ua, ub] • F)) : V w0 w (iT y s • F) :=
  V.ji ⟨h, pb, pk, wv, nv, pv, gv, A, nw, es, yf, yt, ch, u0, u1, u2, u3, u4, u5, u6, u7, u8, u9, ua, ub⟩ (V.deep (V.oG h1 (H.of_eq (by simp only [dI]))))
theorem Xj {inn : Bool} {hl : List o7} {c : pU} {u : List Value} (H : V w0 w (Ep inn hl c u • F)) : (u.all fun x => x.oneCell') = true := by
  unfold Ep at H
  cases inn with
  | true =>
    rw [if_pos rfl] at H
    obtain ⟨x, H⟩ := H.oN
    exact H.flat.fact.1.2.2.2
  | false =>
    rw [if_neg (by decide)] at H
    exact H.fact.1
theorem V.Gy {hl : List o7} {c : pU} {u : List Value} (H : V w0 w F) (hu : (u.all fun x => x.oneCell') = true) : V w0 w (Ep false hl c u • F) := by
  unfold Ep
  rw [if_neg (by decide)]
  exact H.oG hu
theorem V.afA {hl : List o7} {c : pU} {u : List Value} (H : V w0 w (Ep true hl c u • F)) : ∃ pb pk wv nv pv gv A, u = Il pb pk wv nv pv gv hl c ∧ CS A = c.un ∧ wC hl A ∧ (u.all fun x => x.oneCell') = true ∧
    V w0 w (kN pb c.L c.pt c.mark • lF pk c.E c.at_ • tY 1 wv (hl.length + 1) (strs (nN hl)) • Row 9 1 nv (hl.length + 1) (strs (pV hl c.tx)) • qK .i64 pv (A.map (·.1)) • tY 1 gv A.length (A.map (·.2.1)) • rW A • F) := by
  unfold Ep at H
  rw [if_pos rfl] at H
  obtain ⟨⟨pb, pk, wv, nv, pv, gv, A⟩, H⟩ := H.oN
  obtain ⟨⟨h1, h2, h3, h4⟩, H⟩ := H.flat.fact
  exact ⟨pb, pk, wv, nv, pv, gv, A, h1, h2, h3, h4, H.of_eq (by simp only [dI])⟩
theorem V.aaL {hl : List o7} {c : pU} {pb pk : Nat} {wv nv pv gv : Value} {A : List LE} (h2 : CS A = c.un) (h3 : wC hl A) (H : V w0 w (kN pb c.L c.pt c.mark • lF pk c.E c.at_ • tY 1 wv (hl.length + 1) (strs (nN hl)) • Row 9 1 nv (hl.length + 1) (strs (pV hl c.tx)) • qK .i64 pv (A.map (·.1)) • tY 1 gv A.length (A.map (·.2.1)) • rW A • F)) : V w0 w (Ep true hl c (Il pb pk wv nv pv gv hl c) • F) := by
  have o1 := (H.f3).nO.one
  have o2 := (H.f4).aG.one
  have o3 := (H.f5).pJ.one
  have o4 := (H.f6).nO.one
  have hu : ((Il pb pk wv nv pv gv hl c).all fun x => x.oneCell') = true := by
    unfold Il
    simp only [List.all_cons, List.all_nil, o1, o2, o3, o4, Bool.and_true, Bool.true_and]
    rfl
  unfold Ep
  rw [if_pos rfl]
  exact V.ji ⟨pb, pk, wv, nv, pv, gv, A⟩ (V.deep (V.oG ⟨rfl, h2, h3, hu⟩ (H.of_eq (by simp only [dI]))))
end
section
variable {s : bP} {es : List fB} {A : List LE} {yf yt : Int}
theorem UO {E : List (List Int)} {a : Nat} {way : Int} {l : List Int} (h : E.length ≤ 60 ∧ (a < E.length ∨ a = 0) ∧ ∀ e ∈ E, e.length ≤ 1024) :
    (jO E a way l).2.1.length ≤ 60 ∧ ((jO E a way l).2.2 < (jO E a way l).2.1.length ∨ (jO E a way l).2.2 = 0) ∧ ∀ e ∈ (jO E a way l).2.1, e.length ≤ 1024 := by
  obtain ⟨h1, h2, h3⟩ := h
  unfold jO
  by_cases c1 : way < 0 ∨ 2 < way
  · rw [if_pos c1]; exact ⟨h1, h2, h3⟩
  rw [if_neg c1]
  by_cases c2 : 1024 < l.length
  · rw [if_pos c2]; exact ⟨h1, h2, h3⟩
  rw [if_neg c2]
  by_cases c3 : way ≠ 0 ∧ 0 < E.length
  · rw [if_pos c3]
    by_cases c4 : 1024 < l.length + (E.getD 0 []).length
    · rw [if_pos c4]; exact ⟨h1, h2, h3⟩
    · rw [if_neg c4]
      refine ⟨by show (_ :: E.tail).length ≤ 60; rw [um c3.2]; exact h1, .inr rfl, fun e he => ?_⟩
      rcases List.mem_cons.1 he with he | he
      · rw [he]; split <;> rw [List.length_append] <;> omega
      · exact h3 e (List.mem_of_mem_tail he)
  rw [if_neg c3]
  by_cases c5 : way = 0 ∧ l.length = 0
  · rw [if_pos c5]; exact ⟨h1, h2, h3⟩
  rw [if_neg c5]
  refine ⟨by show ((l :: E).take 60).length ≤ 60; rw [List.length_take]; omega, .inr rfl, fun e he => ?_⟩
  rcases List.mem_cons.1 (List.mem_of_mem_take he) with he | he
  · rw [he]; omega
  · exact h3 e he
theorem gB.nI (h : gB s es A yf yt) (L : List Int) (p m : Int) : gB (s.nI L p m) es A yf yt := ⟨AZ h.ok _ _ _, h.rx, h.says, h.CS, h.placed, h.Ju⟩
theorem gB.begin (h : gB s es A yf yt) (hi : s.inn = false) : gB s.bU [] A 0 0 := by
  have h1 := RF h.ok hi
  have h0 := h.rx.1
  have hl := h.CS
  have hq := h.placed
  rw [yS hi] at h1 ⊢
  exact ⟨h1, ⟨h0, fun _ => ⟨h0, rfl, fun _ => ⟨rfl, rfl⟩⟩, fun _ h2 => absurd h2 (by show ¬ (0 : Int) = 2; decide)⟩, rfl, hl, hq, fun _ h2 => absurd h2 (by show ¬ false = true; decide)⟩
theorem Io {c : pU} (h : Gx c) {k : Int} {G : List (List iO)} (h1 : fQ G [] ≤ 16384) (h2 : ∀ g ∈ G, g ≠ []) : Gx { c with un := uq c.un k G } := by
  refine ⟨fun j => ?_, h.2⟩
  show fQ (uq c.un k G j) [] ≤ 16384 ∧ ∀ g ∈ uq c.un k G j, g ≠ []
  by_cases hj : j = k
  · subst hj; rw [gW]; exact ⟨h1, h2⟩
  · rw [uw _ _ hj]; exact h.1 j
theorem gB.more (h : gB s es A yf yt) (hin : s.inn = true) {x : iO} {e : fB} (he : e.says = x) (hx : 0 < x.2.1.length + x.2.2.length) (hok : xK x) (hf : ¬ 16384 ≤ fQ s.here s.put) : gB (s.oH x) (es ++ [e]) A yf yt := by
  have h1 := JU (x := x) h.ok (fun _ => hok)
  rw [uS hx hf] at h1 ⊢
  exact ⟨h1, ⟨h.rx.1, h.rx.2.1, h.rx.2.2⟩, by rw [List.map_append, h.says, ← he]; rfl, h.CS, h.placed, h.Ju⟩
theorem gB.full (h : gB s es A yf yt) (hin : s.inn = true) {x : iO} {e : fB} {A' : List LE} (he : e.says = x) (hx : 0 < x.2.1.length + x.2.2.length) (hok : xK x) (hf : 16384 ≤ fQ s.here s.put)
    (hA : _root_.Go.Proofs.YtnhhmieghbfalaaGreat.CS A' = uq s.c.un s.c.place []) (hP : wC s.hl A') : gB (s.oH x) [e] A' yf yt := by
  have h1 := JU (x := x) h.ok (fun _ => hok)
  rw [uT hx hf] at h1 ⊢
  exact ⟨h1, ⟨Io h.rx.1 (by decide) (by simp), h.rx.2.1, h.rx.2.2⟩, by rw [← he]; rfl, hA, hP, h.Ju⟩
theorem gB.none (h : gB s es A yf yt) {x : iO} (hx : x.2.1.length + x.2.2.length = 0) : gB (s.oH x) es A yf yt := by rw [A8 hx]; exact h
theorem Gz (h : o8 s) (hx : Gx s.c) (hp : s.put ≠ []) (on : Bool) : fQ (s.iw on) [] ≤ 16384 ∧ (∀ g ∈ s.iw on, g ≠ []) ∧ ∀ g ∈ s.iw on, ∀ e ∈ g, xK e := by
  obtain ⟨h1, h2, h3, h4, h5, h6⟩ := h
  have hs := mG s.here s.put
  have hne := (hx.1 s.c.place).2
  have h6' : ∀ g ∈ s.here, ∀ e ∈ g, xK e := h6 s.c.place
  have key : ∀ (G : List (List iO)) (g : List iO), fQ (G ++ [g]) [] ≤ fQ s.here s.put → (∀ x ∈ G, x ∈ s.here) → (∀ e ∈ g, xK e) → g ≠ [] →
      fQ (G ++ [g]) [] ≤ 16384 ∧ (∀ x ∈ G ++ [g], x ≠ []) ∧ ∀ x ∈ G ++ [g], ∀ e ∈ x, xK e := by
    intro G g a1 a2 a3 a4
    refine ⟨by omega, fun x hx => ?_, fun x hx => ?_⟩
    · rcases List.mem_append.1 hx with hx | hx
      · exact hne x (a2 x hx)
      · rw [List.mem_singleton.1 hx]; exact a4
    · rcases List.mem_append.1 hx with hx | hx
      · exact h6' x (a2 x hx)
      · rw [List.mem_singleton.1 hx]; exact a3
  unfold bP.iw
  rw [if_neg hp]
  cases on with
  | false =>
    rw [if_neg (by decide)]
    exact key s.here s.put (by rw [Gl]; omega) (fun x hx => hx) h4 hp
  | true =>
    rw [if_pos rfl]
    by_cases h0 : s.here = []
    · rw [h0]
      exact key [] s.put (by rw [Gl, Yx]; omega) (fun x hx => by cases hx) h4 hp
    · rw [List.getLast?_eq_some_getLast h0]
      have hd := Gj h0
      have h2 : s.here.getLastD [] = s.here.getLast h0 := by rw [List.getLastD_eq_getLast?, List.getLast?_eq_some_getLast h0]; rfl
      rw [h2] at hd
      refine key s.here.dropLast (s.here.getLast h0 ++ s.put) ?_ (fun x hx => List.dropLast_subset _ hx) (fun e he => ?_) (fun he => hp (List.append_eq_nil_iff.1 he).2)
      · rw [Gl, List.length_append, hs]
        unfold fQ
        simp only [List.length_nil, Nat.add_zero]
        omega
      · rcases List.mem_append.1 he with he | he
        · exact h6' _ (List.getLast_mem h0) e he
        · exact h4 e he
theorem OO (h : o8 s) (hx : Gx s.c) (on : Bool) : o8 (s.dJ on) := by
  by_cases hp : s.put = []
  · rw [BN hp]; exact h
  · obtain ⟨f1, f2, f3⟩ := Gz h hx hp on
    rw [oh hp]
    obtain ⟨h1, h2, h3, h4, h5, h6⟩ := h
    refine ⟨h1, h2, h3, by simp, ?_, fun k g hg => ?_⟩
    · show fQ (uq s.c.un s.c.place (s.iw on) s.c.place) [] ≤ 16384
      rw [gW]; exact f1
    · have hg' : g ∈ uq s.c.un s.c.place (s.iw on) k := hg
      by_cases hk : k = s.c.place
      · subst hk; rw [gW] at hg'; exact f3 g hg'
      · rw [uw _ _ hk] at hg'; exact h6 k g hg'
theorem OQ (h : o8 s) (hx : RX s) (on : Bool) : RX (s.dJ on) := by
  by_cases hp : s.put = []
  · rw [BN hp]; exact hx
  · obtain ⟨f1, f2, f3⟩ := Gz h hx.1 hp on
    rw [oh hp]
    exact ⟨Io hx.1 f1 f2, hx.2.1, hx.2.2⟩
theorem gB.flush (h : gB s es A yf yt) {A' : List LE} (on : Bool) (hp : s.put ≠ []) (hA : _root_.Go.Proofs.YtnhhmieghbfalaaGreat.CS A' = uq s.c.un s.c.place (s.iw on)) (hP : wC s.hl A') : gB (s.dJ on) [] A' yf yt := by
  have h1 := OO h.ok h.rx.1 on
  have h2 := OQ h.ok h.rx on
  rw [oh hp] at h1 h2 ⊢
  exact ⟨h1, h2, rfl, hA, hP, h.Ju⟩
theorem gB.sub (h : gB s es A yf yt) {G : List (List iO)} {A' : List LE} (h1 : fQ G s.put ≤ fQ s.here s.put) (h2 : ∀ g ∈ G, g ∈ s.here) (hA : _root_.Go.Proofs.YtnhhmieghbfalaaGreat.CS A' = uq s.c.un s.c.place G) (hP : wC s.hl A') : gB (s.lG G) es A' yf yt := by
  have ht := (h.rx.1.1 s.c.place).1
  have he : fQ s.here s.put = fQ s.here [] + s.put.length := mG _ _
  have hg : fQ G s.put = fQ G [] + s.put.length := mG _ _
  have hh : fQ s.here [] ≤ 16384 := ht
  exact ⟨acd h.ok h1 h2, ⟨Io h.rx.1 (by omega) (fun g hg => (h.rx.1.1 s.c.place).2 g (h2 g hg)), h.rx.2.1, h.rx.2.2⟩, h.says, hA, hP, h.Ju⟩
theorem OT (h : Gx s.c) : s.here.length ≤ 16384 := by
  have h1 := (h.1 s.c.place).1
  have h2 := (h.1 s.c.place).2
  have key : ∀ G : List (List iO), (∀ g ∈ G, g ≠ []) → G.length ≤ (G.map List.length).sum := by
    intro G hG
    induction G with
    | nil => simp
    | cons g r ih =>
      have := ih (fun x hx => hG x (List.mem_cons_of_mem _ hx))
      have h3 : 0 < g.length := List.length_pos_iff.2 (hG g (List.mem_cons_self ..))
      simp only [List.length_cons, List.map_cons, List.sum_cons]
      omega
  have h4 := key (s.c.un s.c.place) h2
  unfold fQ at h1
  simp only [List.length_nil, Nat.add_zero] at h1
  exact Nat.le_trans h4 h1
theorem S9 (h : gB s es A yf yt) : s.here.length ≤ 16384 := OT h.rx.1
theorem Fq {hl : List o7} {A : List LE} {k : Int} {u : Value} {gs : List (Value × List fB)} (h : wC hl A) (hk : 0 ≤ k ∧ k ≤ hl.length) : wC hl (yO A k u gs) := aaK h hk
end
end Go.Proofs.YtnhhmieghbfalaaGreat
end
section
namespace Go.Proofs.YtnhhmieghbfalaaGreat
open Go.RowKit
open _root_.Go.Proofs.Tryz
theorem Qc {A : List LE} {i : Nat} (h : i < A.length) : (A.map (·.1)).getD i 0 = (A.getD i default).1 := by simp [List.getD_eq_getElem?_getD, h]
theorem VQ {A : List LE} {i : Nat} (h : i < A.length) : (A.map (·.2.1)).getD i undef = (A.getD i default).2.1 := by simp [List.getD_eq_getElem?_getD, h]
theorem OU {A : List LE} {p : LE → Bool} {i : Nat} (h : i < A.length) : (A.take (i + 1)).filter p = (A.take i).filter p ++ (if p (A.getD i default) then [A.getD i default] else []) := by
  rw [List.take_succ_eq_append_getElem h, List.filter_append, List.getD_eq_getElem?_getD, List.getElem?_eq_getElem h]
  simp only [Option.getD_some, List.filter_cons, List.filter_nil]
section
variable {w0 w : World} {F : HP} {y : Nat} {k : Int} {pv gv u : Value} {A : List LE} {gs : List (Value × List fB)}
theorem Fv {x0 x1 x2 x3 x4 x5 x6 x9 x10 x11 x12 tZ x14 x15 x16 x17 x18 x19 x20 x21 uD x23 x24 x25 uI x27 x28 x29 x30 x31 x32 vM x34 Ec Ed Ee x38 x39 x40 x41 : Value} (H : V w0 w (eF y (.cells (x0 :: x1 :: x2 :: x3 :: x4 :: x5 :: x6 :: pv :: gv :: x9 :: x10 :: x11 :: x12 :: tZ :: x14 :: x15 :: x16 :: x17 :: x18 :: x19 :: x20 :: x21 :: uD :: x23 :: x24 :: x25 :: uI :: x27 :: x28 :: x29 :: x30 :: x31 :: x32 :: vM :: x34 :: Ec :: Ed :: Ee :: x38 :: x39 :: x40 :: x41 :: []).toArray 85 (0, 0)) • qK .i64 pv (A.map (·.1)) • tY 1 gv A.length (A.map (·.2.1)) • rW A • F)) : iQ prog 95 #[.pointer (some ⟨y, 7, none⟩), .int .i64 k] w fun v' w' => ∃ gs, Aw gs = CS A k ∧
  V w0 w' (tY 1 v' gs.length (gs.map (·.1)) • qL gs • eF y (.cells (x0 :: x1 :: x2 :: x3 :: x4 :: x5 :: x6 :: pv :: gv :: x9 :: x10 :: x11 :: x12 :: tZ :: x14 :: x15 :: x16 :: x17 :: x18 :: x19 :: x20 :: x21 :: uD :: x23 :: x24 :: x25 :: uI :: x27 :: x28 :: x29 :: x30 :: x31 :: x32 :: vM :: x34 :: Ec :: Ed :: Ee :: x38 :: x39 :: x40 :: x41 :: []).toArray 85 (0, 0)) • qK .i64 pv (A.map (·.1)) • tY 1 gv A.length (A.map (·.2.1)) • rW A • F) := by
 have hpl : (A.map (·.1)).length = A.length := List.length_map _
 have hcap : (A.length : Int) ≤ 9223372036854775807 := by obtain ⟨_, a, c, _, h2, h3, _⟩ := (H.f3).nO; omega
 refine qQ func95 ntmps95 ?_
 refine kW O (aO (kW O (bI ?_)))
 refine iC [(0, _), (1, _)] (fun (i : Nat) => [(5, .int .i64 (i : Int))]) (fun (i : Nat) W => (i ≤ A.length ∧ ∀ j, j < i → (A.getD j default).1 ≠ k) ∧ V w0 W (eF y (.cells (x0 :: x1 :: x2 :: x3 :: x4 :: x5 :: x6 :: pv :: gv :: x9 :: x10 :: x11 :: x12 :: tZ :: x14 :: x15 :: x16 :: x17 :: x18 :: x19 :: x20 :: x21 :: uD :: x23 :: x24 :: x25 :: uI :: x27 :: x28 :: x29 :: x30 :: x31 :: x32 :: vM :: x34 :: Ec :: Ed :: Ee :: x38 :: x39 :: x40 :: x41 :: []).toArray 85 (0, 0)) • qK .i64 pv (A.map (·.1)) • tY 1 gv A.length (A.map (·.2.1)) • rW A • F)) (fun (i : Nat) => A.length - i) (0) uj pY ⟨⟨by omega, fun j hj => by omega⟩, H.f4.f4.f4.f4⟩ ?_
 rintro i w1 ⟨⟨hi, hne⟩, HL⟩
 dsimp only [List.cons_append, List.nil_append]
 refine aO (bY O (lM O O (Z 0 lW O sizeOf78 O (dL jC O (HL).get.2 O (aZ (pW ((HL.f2).pJ) jC O) (aZ (iE O O) (kE O (fun h1 => ?_) (fun h1 => ?_))))))))
 ·(try simp only [aK] at h1)
  refine gX (aO (bI (aO ?_)))
  have hil : i < A.length := by omega
  refine aB (lM O O (Z 0 lW O sizeOf78 O (dL jC O (HL).get.2 O (dn O ?_))))
  obtain ⟨bpv, opv, cpv, epv⟩ := oL.qP ((HL.f2).pJ) (by omega)
  cases epv
  refine aZ (eG jC ah O O (by omega)) ?_
  refine aZ (jk (eH ay O) O (by first | exact oL.wG ((HL.f2).pJ) (by omega) | exact oL.Hf ((HL.f2).pJ) (by omega) | exact oL.GX ((HL.f2).pJ) (by omega))) ?_
  rw [Qc hil]
  refine dn O (aZ (je O O) (kE O (fun h2 => ?_) (fun h2 => ?_)))
  ·(try simp only [aK] at h2)
   have hek : (A.getD i default).1 = k := h2
   refine bY O (dA O (Z 1 lW O sizeOf79 O (dL pz O (HL).get.2 O (dn O ?_))))
   obtain ⟨bgv, ogv, cgv, egv⟩ := Rd.qP ((HL.f3).nO) (by omega)
   cases egv
   refine aZ (eG pz gQ O O (by omega)) ?_
   refine aZ (jk (eH bJ O) O (by first | exact Rd.wG ((HL.f3).nO) (by omega) | exact Rd.Hf ((HL.f3).nO) (by omega) | exact Rd.GX ((HL.f3).nO) (by omega))) ?_
   rw [VQ hil]
   have hat := acv hil hne hek
   obtain ⟨xp, xv, xgs, hx⟩ : ∃ xp xv xgs, A.getD i default = (xp, xv, xgs) := ⟨_, _, _, rfl⟩
   rw [hx] at hat ⊢
   dsimp only at hat ⊢
   have Ho2 := HL.f4
   have Hc3 := Ho2.VP hil hx
   refine jP O (dO (aV (aV (dO (aV (gy results95 O ?_))))))
   exact ⟨xgs, hat.symm, Hc3.f3.f6.f6.f6.f6.f6⟩
  ·(try simp only [aK] at h2)
   have hni : (A.getD i default).1 ≠ k := h2
   refine fV (aX (bC (aB (dn O (aZ (fZ O O (by omega)) (oD O (cO ?_)))))))
   refine eX (i + 1) ?_ ?_ ?_ ?_
   ·exact pY
   ·exact uj
   ·(try dsimp only)
    first | done | exact ⟨⟨by omega, fun j hj => (show j < i ∨ j = i from by omega).elim (hne j) (fun c => c ▸ hni)⟩, HL.f4.f4.f4.f4⟩
   ·(try dsimp only); omega
 ·(try simp only [aK] at h1)
  refine gY (aY (aY (dw (bC (aO ?_)))))
  obtain rfl : i = A.length := by omega
  refine aB (jP O (gy results95 O ?_))
  exact ⟨[], by rw [Zl hne]; rfl, ((HL.f4.f4.f4.f4).VO none).SS⟩
theorem I7 {x0 x1 x2 x3 x4 x5 x6 x9 x10 x11 x12 tZ x14 x15 x16 x17 x18 x19 x20 x21 uD x23 x24 x25 uI x27 x28 x29 x30 x31 x32 vM x34 Ec Ed Ee x38 x39 x40 x41 : Value} (H : V w0 w (eF y (.cells (x0 :: x1 :: x2 :: x3 :: x4 :: x5 :: x6 :: pv :: gv :: x9 :: x10 :: x11 :: x12 :: tZ :: x14 :: x15 :: x16 :: x17 :: x18 :: x19 :: x20 :: x21 :: uD :: x23 :: x24 :: x25 :: uI :: x27 :: x28 :: x29 :: x30 :: x31 :: x32 :: vM :: x34 :: Ec :: Ed :: Ee :: x38 :: x39 :: x40 :: x41 :: []).toArray 85 (0, 0)) • qK .i64 pv (A.map (·.1)) • tY 1 gv A.length (A.map (·.2.1)) • rW A • tY 1 u gs.length (gs.map (·.1)) • qL gs • F)) (hA : A.length ≤ 4097) : iQ prog 96 #[.pointer (some ⟨y, 7, none⟩), .int .i64 k, u] w fun _ w' => ∃ pv' gv',
  V w0 w' (eF y (.cells (x0 :: x1 :: x2 :: x3 :: x4 :: x5 :: x6 :: pv' :: gv' :: x9 :: x10 :: x11 :: x12 :: tZ :: x14 :: x15 :: x16 :: x17 :: x18 :: x19 :: x20 :: x21 :: uD :: x23 :: x24 :: x25 :: uI :: x27 :: x28 :: x29 :: x30 :: x31 :: x32 :: vM :: x34 :: Ec :: Ed :: Ee :: x38 :: x39 :: x40 :: x41 :: []).toArray 85 (0, 0)) • qK .i64 pv' ((yO A k u gs).map (·.1)) • tY 1 gv' (yO A k u gs).length ((yO A k u gs).map (·.2.1)) • rW (yO A k u gs) • F) := by
 have hpl : (A.map (·.1)).length = A.length := List.length_map _
 have hfl : ∀ i, ((A.take i).filter fun x => x.1 != k).length ≤ A.length := fun i => Nat.le_trans (List.length_filter_le _ _) (by rw [List.length_take]; omega)
 have adX : ∀ i, (((A.take i).filter fun x => x.1 != k).map (·.1)).length = ((A.take i).filter fun x => x.1 != k).length := fun i => List.length_map _
 refine ET func96 ntmps96 ?_
 refine kW O (kW O (aO (kW O (bI ?_))))
 refine iC [(0, _), (1, _), (2, _)] (fun (⟨i, u1, u2⟩ : Nat × Value × Value) => [(6, u1), (7, u2), (8, .int .i64 (i : Int))]) (fun (⟨i, u1, u2⟩ : Nat × Value × Value) W => i ≤ A.length ∧ V w0 W (jg 3 .i64 u1 (((A.take i).filter fun x => x.1 != k).map (·.1)) • Row 149 1 u2 ((A.take i).filter fun x => x.1 != k).length (((A.take i).filter fun x => x.1 != k).map (·.2.1)) • eF y (.cells (x0 :: x1 :: x2 :: x3 :: x4 :: x5 :: x6 :: pv :: gv :: x9 :: x10 :: x11 :: x12 :: tZ :: x14 :: x15 :: x16 :: x17 :: x18 :: x19 :: x20 :: x21 :: uD :: x23 :: x24 :: x25 :: uI :: x27 :: x28 :: x29 :: x30 :: x31 :: x32 :: vM :: x34 :: Ec :: Ed :: Ee :: x38 :: x39 :: x40 :: x41 :: []).toArray 85 (0, 0)) • qK .i64 pv (A.map (·.1)) • tY 1 gv A.length (A.map (·.2.1)) • rW A • tY 1 u gs.length (gs.map (·.1)) • qL gs • F)) (fun (⟨i, u1, u2⟩ : Nat × Value × Value) => A.length - i) ((0, .slice none 0 0, .slice none 0 0)) AA AA ⟨by omega, ((H.f6.f6.f6.f6.f6.f6).gV (e := 149) (sz := 1) none).gV none⟩ ?_
 rintro ⟨i, u1, u2⟩ w1 ⟨hi, HL⟩
 dsimp only [List.cons_append, List.nil_append]
 refine aO (bY O (lM O O (Z 0 lW O sizeOf78 O (dL jC O (HL.f3).get.2 O (aZ (pW ((HL.f4).pJ) jC O) (aZ (iE O O) (kE O (fun h1 => ?_) (fun h1 => ?_))))))))
 ·(try simp only [aK] at h1)
  refine gX (aO (bI (aO ?_)))
  have hil : i < A.length := by omega
  have hfi := hfl i
  have adY := adX i
  obtain ⟨xp, xv, xgs, hx⟩ : ∃ xp xv xgs, A.getD i default = (xp, xv, xgs) := ⟨_, _, _, rfl⟩
  refine aB (lM O O (Z 0 lW O sizeOf78 O (dL jC O (HL.f3).get.2 O (dn O ?_))))
  obtain ⟨bpv, opv, cpv, epv⟩ := oL.qP ((HL.f4).pJ) (by omega)
  cases epv
  refine aZ (eG jC ah O O (by omega)) ?_
  refine aZ (jk (eH ay O) O (by first | exact oL.wG ((HL.f4).pJ) (by omega) | exact oL.Hf ((HL.f4).pJ) (by omega) | exact oL.GX ((HL.f4).pJ) (by omega))) ?_
  rw [Qc hil, hx]
  dsimp only
  refine dn O (aZ (fF O O) (kE O (fun h2 => ?_) (fun h2 => ?_)))
  ·(try simp only [aK] at h2)
   have hne : ¬ xp = k := h2
   refine bY O (lM O O (Z 0 lW O sizeOf78 O (dL jC O (HL.f3).get.2 O (dn O (aZ (eG jC ah O O (by omega)) ?_)))))
   refine aZ (jk (eH ay O) O (by first | exact oL.wG ((HL.f4).pJ) (by omega) | exact oL.Hf ((HL.f4).pJ) (by omega) | exact oL.GX ((HL.f4).pJ) (by omega))) ?_
   rw [Qc hil, hx]
   dsimp only
   refine jW (ES (k := .i64) (l := [_]) HL jC ah zeroValue3 O O O (by decide)) ?_
   rintro l2 w2 H2
   refine jW (jr H2.f2 ((H2).aG) jC adZ O O (by first | omega | (simp only [List.length_append, List.length_nil, List.length_cons]; omega) | (simp; omega)) (by first | omega | (simp only [List.length_append, List.length_nil, List.length_cons]; omega) | (simp; omega))) ?_
   rintro l3 w3 H3
   try simp only [List.nil_append] at H3
   refine jZ O (aB (jw O O (dA O (Z 1 lW O sizeOf79 O (dL pz O (H3.f4).get.2 O (dn O ?_))))))
   obtain ⟨bgv, ogv, cgv, egv⟩ := Rd.qP ((H3.f6).nO) (by omega)
   cases egv
   refine aZ (eG pz gQ O O (by omega)) ?_
   refine aZ (jk (eH bJ O) O (by first | exact Rd.wG ((H3.f6).nO) (by omega) | exact Rd.Hf ((H3.f6).nO) (by omega) | exact Rd.GX ((H3.f6).nO) (by omega))) ?_
   rw [VQ hil, hx]
   dsimp only
   have Nj := H3.f7
   have JJ := Nj.VP hil hx
   refine jW (jc (vs := [_]) JJ pz gQ zeroValue149 O O O (by decide) (aW (by first | rfl | exact Rd.one ((JJ).nO)) bG)) ?_
   rintro l6 w6 H6
   refine jW (dQ H6.f7 pz Zu O O O ((H6).aG) (aW (by first | rfl | exact Rd.one ((H6.f2).nO)) bG) (by omega) (by omega)) ?_
   rintro l7 w7 H7
   have Hd8 := H7.f2.right
   refine oD O (cO (aX (bC (aB (dn O (aZ (fZ O O (by omega)) (oD O (cO ?_))))))))
   refine eX ((i + 1, l3, l7)) ?_ ?_ ?_ ?_
   ·exact AA
   ·exact AA
   ·(try dsimp only)
    first | done | exact ⟨by omega, by rw [OU hil, hx]; dsimp only; first | (rw [if_pos (by simpa using hne)]; simp only [List.map_append, List.length_append]; exact Hd8.f2.right.f2.right.f4.right.f8.f8.f4.f8.f8.f8.f7.f8) | (rw [if_neg (by simpa using heq), List.append_nil]; exact Hd8.f2.right.f2.right.f4.right.f8.f8.f4.f8.f8.f8.f7.f8)⟩
   ·(try dsimp only); omega
  ·(try simp only [aK] at h2)
   have heq : xp = k := by have h9 := h2; omega
   refine fV (aX (bC (aB (dn O (aZ (fZ O O (by omega)) (oD O (cO ?_)))))))
   refine eX ((i + 1, u1, u2)) ?_ ?_ ?_ ?_
   ·exact AA
   ·exact AA
   ·(try dsimp only)
    first | done | exact ⟨by omega, by rw [OU hil, hx]; dsimp only; first | (rw [if_pos (by simpa using hne)]; simp only [List.map_append, List.length_append]; exact HL.f8.f8.f8.f8.f8.f8.f8.f8) | (rw [if_neg (by simpa using heq), List.append_nil]; exact HL.f8.f8.f8.f8.f8.f8.f8.f8)⟩
   ·(try dsimp only); omega
 ·(try simp only [aK] at h1)
  refine gY (aY (aY (dw (bC ?_))))
  obtain rfl : i = A.length := by omega
  have HX := HL
  rw [List.take_length] at HX
  have hfi := hfl A.length
  have adY := adX A.length
  rw [List.take_length] at hfi adY
  refine aB (jw O O (jw O O (jW (ES (k := .i64) (l := [_]) HX jC ah zeroValue3 O O O (by decide)) ?_)))
  rintro l9 w9 H9
  refine jW (jr H9.f2 ((H9).aG) jC adZ O O (by first | omega | (simp only [List.length_append, List.length_nil, List.length_cons]; omega) | (simp; omega)) (by first | omega | (simp only [List.length_append, List.length_nil, List.length_cons]; omega) | (simp; omega))) ?_
  rintro l10 w10 rD
  try simp only [List.nil_append] at rD
  refine jw O O (jW (jc (vs := [_]) rD pz gQ zeroValue149 O O O (by decide) (aW (by first | rfl | exact Rd.one ((rD.f8).nO)) bG)) ?_)
  rintro l11 Hr rX
  refine jW (dQ rX.f4 pz Zu O O O ((rX).aG) (aW (by first | rfl | exact Rd.one ((rX.f9).nO)) bG) (by omega) (by omega)) ?_
  rintro l12 w12 vN
  have Zv := vN.f2.right
  refine dA O (Z 0 lW O sizeOf78 O (aC (dX 7 (l' := [_, _, _, _, _, _, _, _, _, _, _, _, _, _, _, _, _, _, _, _, _, _, _, _, _, _, _, _, _, _, _, _, _, _, _, _, _, _, _, _, _, _]) Zv.f4 sizeOf78 O O (by first | rfl | exact Rd.one ((Zv.f2).aG)) O O) ?_))
  rintro _ Qu AL
  refine dA O (Z 1 lW O sizeOf79 O (aC (dX 8 (l' := [_, _, _, _, _, _, _, _, _, _, _, _, _, _, _, _, _, _, _, _, _, _, _, _, _, _, _, _, _, _, _, _, _, _, _, _, _, _, _, _, _, _]) AL sizeOf79 O O (by first | rfl | exact Rd.one ((AL.f2).aG)) O O) ?_))
  rintro _ TD Bz
  refine cO (kG (.inr O) results96 ?_)
  have hs1 : (yO A k u gs).map (·.1) = (A.filter fun x => x.1 != k).map (·.1) ++ [k] := by unfold yO; rw [List.map_append]; rfl
  have hs2 : (yO A k u gs).map (·.2.1) = (A.filter fun x => x.1 != k).map (·.2.1) ++ [u] := by unfold yO; rw [List.map_append]; rfl
  have hs3 : (yO A k u gs).length = (A.filter fun x => x.1 != k).length + 1 := by unfold yO; rw [List.length_append]; rfl
  have HQ := (Bz.f4.right.f4.right.f4.right.f2.f3.f6.f6.f6).Zo (p := k) |>.f2.iZ.f3.Ij.f4.f3.f2
  exact ⟨_, _, by rw [hs1, hs2, hs3]; exact HQ⟩
theorem I8 {x0 x1 x2 x3 x4 x5 x6 x9 x10 x11 x12 tZ x14 x15 x16 x17 x18 x19 x20 x21 uD x23 x24 x25 uI x27 x28 x29 x30 x31 x32 vM x34 Ec Ed Ee x38 x39 x40 x41 : Value} (H : V w0 w (eF y (.cells (x0 :: x1 :: x2 :: x3 :: x4 :: x5 :: x6 :: pv :: gv :: x9 :: x10 :: x11 :: x12 :: tZ :: x14 :: x15 :: x16 :: x17 :: x18 :: x19 :: x20 :: x21 :: uD :: x23 :: x24 :: x25 :: uI :: x27 :: x28 :: x29 :: x30 :: x31 :: x32 :: vM :: x34 :: Ec :: Ed :: Ee :: x38 :: x39 :: x40 :: x41 :: []).toArray 85 (0, 0)) • qK .i64 pv (A.map (·.1)) • tY 1 gv A.length (A.map (·.2.1)) • rW A • F)) (hA : A.length ≤ 4097) : iQ prog 96 #[.pointer (some ⟨y, 7, none⟩), .int .i64 k, .slice none 0 0] w fun _ w' => ∃ pv' gv',
    V w0 w' (eF y (.cells (x0 :: x1 :: x2 :: x3 :: x4 :: x5 :: x6 :: pv' :: gv' :: x9 :: x10 :: x11 :: x12 :: tZ :: x14 :: x15 :: x16 :: x17 :: x18 :: x19 :: x20 :: x21 :: uD :: x23 :: x24 :: x25 :: uI :: x27 :: x28 :: x29 :: x30 :: x31 :: x32 :: vM :: x34 :: Ec :: Ed :: Ee :: x38 :: x39 :: x40 :: x41 :: []).toArray 85 (0, 0)) • qK .i64 pv' ((yO A k (.slice none 0 0) []).map (·.1)) • tY 1 gv' (yO A k (.slice none 0 0) []).length ((yO A k (.slice none 0 0) []).map (·.2.1)) • rW (yO A k (.slice none 0 0) []) • F) :=
  I7 (gs := []) (u := .slice none 0 0) (((H.VO none).SS).of_eq (by ac_rfl)) hA
end
theorem I9 {w0 w : World} {F : HP} {p : Nat} {L : List Int} {pt mk : Int} (H : V w0 w (kN p L pt mk • F)) : iQ prog 40 #[.pointer (some ⟨p, 0, none⟩)] w fun v w' => ∃ u, v = .agg (lN u pt mk) ∧ V w0 w' (jg 21 .i32 u L • kN p L pt mk • F) := by
  obtain ⟨a, c, g1, g2, g3, g4, g5, HB⟩ := H.ref
  refine iQ.mono (SX HB g1) fun v w' h => ?_
  obtain ⟨u, h1, h2⟩ := h
  exact ⟨u, h1, (V.oC g1 g2 g3 h2.f2.f3.f2).f2⟩
section
variable {w0 w : World} {F : HP} {y : Nat} {s : bP} {x : Int} {b : Bool}
theorem Nw (H : V w0 w (iT y s • F)) : iQ prog 60 #[.pointer (some ⟨y, 0, none⟩)] w fun v w' => v = .int .i64 s.count ∧ V w0 w' (iT y s • F) := by
 refine jH func60 ntmps60 ?_
 obtain ⟨MB, zk, zn, zo, zq, BR, BU, Ny, BX, BZ, Bl, Bo, Bq, zu, zx, zy, zA, zB, zC, zD, zF, zG, zH, zI, zJ, jG, qW, lI⟩ := (H).Bj
 have harg := jG.ok.2.2.1
 refine kW O (kW O ?_)
 refine vP [(0, _)] (fun (_ : Unit) => [(3, .int .i64 (if s.given = true ∧ 0 ≤ s.arg then s.arg else 1))]) (fun (_ : Unit) W => W = w) pY ?_ ?_
 ·rintro _ w2 rfl
  dsimp only [List.cons_append, List.nil_append]
  have hn1 : -1 ≤ (if s.given = true ∧ 0 ≤ s.arg then s.arg else 1) ∧ (if s.given = true ∧ 0 ≤ s.arg then s.arg else 1) ≤ 1000000 := by split <;> omega
  refine aO (bY O (dA O (Z 25 aI O aN O (dL bf O (lI).get.2 O (qG O (fun h1 => ?_) (fun h1 => ?_))))))
  ·(try simp only [aK] at h1)
   refine bK (dn O (bK (dA O (bK (Z 26 aI O aN O (bK (dL bf O (lI).get.2 O (nX O O (kE O (fun h2 => ?_) (fun h2 => ?_))))))))))
   ·(try simp only [aK] at h2)
    refine bY O (aZ (XD O (by omega)) (jP O (aV (gy results60 O ?_))))
    have Nj := lI.f12.f12.f12.f12.f12.f12.f12.f12.f12.f12.f12.f12
    have JJ := V.lu (s := s) jG Nj
    exact ⟨by unfold bP.count; congr 1; by_cases hg : s.given = true <;> by_cases hm : s.minus = true <;> by_cases ha : s.arg < 0 <;> simp_all <;> omega, JJ⟩
   ·(try simp only [aK] at h2)
    refine gX (bY O (jP O (gy results60 O ?_)))
    have PG := lI.f12.f12.f12.f12.f12.f12.f12.f12.f12.f12.f12.f12
    have PI := V.lu (s := s) jG PG
    exact ⟨by unfold bP.count; congr 1; by_cases hg : s.given = true <;> by_cases hm : s.minus = true <;> by_cases ha : s.arg < 0 <;> simp_all <;> omega, PI⟩
  ·(try simp only [aK] at h1)
   refine cZ (cZ (cZ (cZ (lH O O (iF (vX (gX (bY O (jP O (gy results60 O ?_))))))))))
   have KR := lI.f12.f12.f12.f12.f12.f12.f12.f12.f12.f12.f12.f12
   have Jr := V.lu (s := s) jG KR
   exact ⟨by unfold bP.count; congr 1; by_cases hg : s.given = true <;> by_cases hm : s.minus = true <;> by_cases ha : s.arg < 0 <;> simp_all <;> omega, Jr⟩
 ·skip
  refine bY O (dA O (Z 25 aI O aN O (dL bf O (lI).get.2 O (qG O (fun h3 => ?_) (fun h3 => ?_)))))
  ·(try simp only [aK] at h3)
   refine bK (dn O (bK (dA O (bK (Z 27 aI O ah O (bK (dL ay O (lI).get.2 O (bK (aZ (Cc O O) (nX O O (kE O (fun h4 => ?_) (fun h4 => ?_))))))))))))
   ·(try simp only [aK] at h4)
    refine aB (lM O O (Z 27 aI O ah O (dL ay O (lI).get.2 O (oD O (cO ?_)))))
    refine gZ (()) ?_ ?_ ?_
    ·exact (Sub.qF O (by first | (rw [if_pos ⟨by assumption, by omega⟩] <;> rfl) | (rw [if_neg (by simp_all)] <;> rfl)) (Sub.nil _))
    ·exact pY
    ·(try dsimp only)
     first | done | exact rfl
   ·(try simp only [aK] at h4)
    refine fV ?_
    refine gZ (()) ?_ ?_ ?_
    ·exact (Sub.qF O (by first | (rw [if_pos ⟨by assumption, by omega⟩] <;> rfl) | (rw [if_neg (by simp_all)] <;> rfl)) (Sub.nil _))
    ·exact pY
    ·(try dsimp only)
     first | done | exact rfl
  ·(try simp only [aK] at h3)
   refine cZ (cZ (cZ (cZ (cZ (lH O O (iF (vX (fV ?_))))))))
   refine gZ (()) ?_ ?_ ?_
   ·exact (Sub.qF O (by first | (rw [if_pos ⟨by assumption, by omega⟩] <;> rfl) | (rw [if_neg (by simp_all)] <;> rfl)) (Sub.nil _))
   ·exact pY
   ·(try dsimp only)
    first | done | exact rfl
theorem Nz (H : V w0 w (iT y s • F)) : iQ prog 62 #[.pointer (some ⟨y, 0, none⟩)] w fun v w' => v = .bool s.given ∧ V w0 w' (iT y s • F) := by
 refine jH func62 ntmps62 ?_
 refine kW O (aO ?_)
 obtain ⟨MB, zk, zn, zo, zq, BR, BU, Ny, BX, BZ, Bl, Bo, Bq, zu, zx, zy, zA, zB, zC, zD, zF, zG, zH, zI, zJ, jG, qW, lI⟩ := (H).Bj
 refine aB (lM O O (Z 25 aI O aN O (dL bf O (lI).get.2 O (jP O (gy results62 O ?_)))))
 have Q9 := lI.f12.f12.f12.f12.f12.f12.f12.f12.f12.f12.f12.f12
 have Oi := V.lu (s := s) jG Q9
 exact ⟨O, Oi⟩
theorem GH (H : V w0 w (iT y s • F)) : iQ prog 14 #[.pointer (some ⟨y, 0, none⟩)] w fun v w' => ∃ u, v = .agg (lN u s.c.pt s.c.mark) ∧ V w0 w' (jg 21 .i32 u s.c.L • iT y s • F) := by
 refine jH func14 ntmps14 ?_
 refine lQ (jW (gq (l := [_, _, _]) H oU O) ?_)
 rintro _ w1 ⟨b1, rfl, H1⟩
 refine qJ ?_
 obtain ⟨MB, zk, zn, zo, zq, BR, BU, Ny, BX, BZ, Bl, Bo, Bq, zu, zx, zy, zA, zB, zC, zD, zF, zG, zH, zI, zJ, jG, qW, lI⟩ := (H1.f2).Bj
 refine aB (lM O O (Z 1 aI O dB O (Z 0 bH O mO O (dL kF O (lI).get.2 O (fO O func40 (I9 lI.f2) ?_)))))
 rintro _ w3 ⟨u3, rfl, H3⟩
 refine aC (dD 0 (l' := [_, _, _]) (us := [_, _, _]) H3.f14 kH O O O (aW (by first | rfl | exact Rd.one ((H3).aG)) (aH (aH bG))) O O) ?_
 rintro _ w4 H4
 refine XJ ?_
 refine qO (.inl O) (Jg results14 O dU O (by rw [N9]; rfl) (H4).get.2) ?_
 have Ho6 := H4.f14.f14.f14.f14.f14.f14.f14.f14.f14.f14.f13.f14
 have Hc7 := V.lu (s := s) jG Ho6
 exact ⟨_, O, Hc7.f2.right.f2⟩
end
end Go.Proofs.YtnhhmieghbfalaaGreat
end
section
namespace Go.Proofs.YtnhhmieghbfalaaGreat
open Go.RowKit
section
variable {w0 w : World} {F : HP} {e h : Nat} {hl : List o7} {base most : Int}
end
end Go.Proofs.YtnhhmieghbfalaaGreat
end
section
namespace Go.Proofs.YtnhhmieghbfalaaGreat
open Go.RowKit
open _root_.Go.Proofs.Tryz
section
variable {w0 w : World} {F : HP} {l : List o7} {v : Value}
theorem Zw (H : V w0 w F) (hv : CJ w0 F 2 v l.length (l.flatMap ny)) (hb : l.length ≤ 5864062014805) (hm : wJ l ≠ 0) : iQ prog 4 #[v] w fun v' w' => v' = .tuple #[.pointer none, .pointer none, .bool true] ∧ V w0 w' F := by
 refine jH func4 ntmps4 ?_
 refine lQ (oD O (oD O (jZ O (bY O (fO O func24 (Nr H (by decide) hv hb hm) ?_)))))
 rintro _ w1 ⟨rfl, H1⟩
 refine dn O (xZ O O (xZ O O (oD O (jZ O (bY O (fO O func25 (LZ H1 (by decide) hv hb hm) ?_))))))
 rintro _ w2 ⟨rfl, H2⟩
 refine dn O (xZ O O (xZ O O (oD O (uK O (bY O (dn O (aZ (fF O O) (iF (FH O (fun h1 => ?_))))))))))
 (try simp only [aK] at h1)
 refine gX (aO (bY O (aZ (fF O O) (kE O (fun h2 => ?_) (fun h => by exfalso; (try simp only [aK] at h); exact hm h)))))
 (try simp only [aK] at h2)
 refine lQ (oD O (oD O (jP O (aV ?_))))
 refine U3 (.inl O) results4 O O O ?_
 exact ⟨O, H2⟩
end
section
variable {w0 w : World} {F : HP} {p y h : Nat} {L : List Int} {pt mk n : Int} {E : List (List Int)} {place : Nat} {s : bP} {l : List Int} {v wv nv : Value} {m : Nat} {xs ys : List Value}
theorem Qd (H : V w0 w (kN p L pt mk • F)) : iQ prog 74 #[.pointer (some ⟨p, 0, none⟩)] w fun v w' => ∃ q, v = .pointer (some ⟨q, 0, none⟩) ∧ V w0 w' (kN q L pt mk • kN p L pt mk • F) := by
 refine jH func74 ntmps74 ?_
 refine kW O (aO ?_)
 obtain ⟨ahz, ahA, ad0, ad1, ad2, ahB, ahC, afB⟩ := (H).ref
 refine aB (uK O ?_)
 have Np := afB.drew
 have lg := V.kp (Np.f2.f2)
 refine wL [4, 9, 13] lg O (gK 0 O lg O (gK 1 O lg O (jL 2 O lg O (fH 3 O lg 0 bD O bg O (iY 4 O lg (fun W hW => jQ aA O ((Kp.h hW)).get.2 O) (gK 6 O lg O (jL 7 O lg O (fH 8 O lg 1 bD O ah O (iY 9 O lg (fun W hW => jQ ay O ((Kp.h hW)).get.2 O) (gK 10 O lg O (jL 11 O lg O (fH 12 O lg 2 bD O ah O (iY 13 O lg (fun W hW => jQ ay O ((Kp.h hW)).get.2 O) (lU 5 O (jr (l := []) (Np.gV none) ((Np.f2).aG) aA Zr O O (by first | omega | (simp only [List.length_append, List.length_nil, List.length_cons]; omega) | (simp; omega)) (by first | omega | (simp only [List.length_append, List.length_nil, List.length_cons]; omega) | (simp; omega))) ?_))))))))))))))
 rintro l2 w2 H2
 try simp only [List.nil_append] at H2
 have EZ := V.kp (H2.f3.f3.f3)
 refine dV EZ (fun W hW => (Kp.h hW).right.f2.f2) ?_
 refine jR 14 O EZ (fun _ => fC (zl := [.slice none 0 0, .int .i64 0, .int .i64 0]) (pl := [(0, 1), (1, 1), (2, 1)]) [_, _, _] bD zeroValue91 O (fun w => by kernel_rfl) O (.one (Rd.one ((H2).aG)) (.on (.on .nil))) O) ?_
 refine lU 15 O (kC (l := [_, _, _]) H2 O O) ?_
 rintro _ w3 ⟨b3, rfl, H3⟩
 have Ei := V.kp (H3.f4.f4.f4.f4)
 refine fG Ei (by kernel_rfl) ?_
 refine jR 16 O Ei (fun _ => iV O) (qN (bC (oP (gy results74 O ?_))))
 have X0 := H3.f4.f4
 have X3 := V.oC ad0 ad1 ad2 X0
 exact ⟨_, O, V.oC ad0 ad1 ad2 X3.f3.f3⟩
theorem DN (H : V w0 w (lF p E place • F)) (hE : E.length ≤ 60 ∧ (place < E.length ∨ place = 0) ∧ ∀ e ∈ E, e.length ≤ 1024) : iQ prog 75 #[.pointer (some ⟨p, 0, none⟩)] w fun v w' => ∃ q, v = .pointer (some ⟨q, 0, none⟩) ∧ V w0 w' (lF q E place • lF p E place • F) := by
 obtain ⟨u, HR⟩ := H.Zt
 obtain ⟨us, HR⟩ := HR.swap.ll
 obtain ⟨au, cu, rfl, -⟩ := (HR.aG).form
 have hE1 : E.length ≤ 60 := hE.1
 have hE2 : ∀ k, (E.getD k []).length ≤ 1024 := YE hE.2.2
 refine jH func75 ntmps75 ?_
 refine kW O (kW O (aO (kW O (bI ?_))))
 refine iC [(0, _)] (fun (⟨k, z⟩ : Nat × Value) => [(3, z), (4, .int .i64 (k : Int))]) (fun (⟨k, z⟩ : Nat × Value) W => k ≤ E.length ∧ ∃ zs, V w0 W (Row 23 1 z k zs • pR .i32 zs (E.take k) • Row 23 1 (.slice au E.length cu) E.length us • pR .i32 us E • eF p (.cells #[.slice au E.length cu, .int .i64 place] 120 (0, 0)) • F)) (fun (⟨k, z⟩ : Nat × Value) => E.length - k) ((0, .slice none 0 0)) pY uj ⟨by omega, [], (HR.f3.f3.f3).KD.gV none⟩ ?_
 rintro ⟨k, z⟩ w1 ⟨hk, zs, HL⟩
 dsimp only [List.cons_append, List.nil_append]
 obtain ⟨az, cz, rfl, -⟩ := (HL.aG).form
 refine aO (bY O (lM O O (Z 0 bQ O dG O (dL aT O (HL.f5).get.2 O (aZ (fA ((HL.f3).aG) aT O) (aZ (iE O O) (kE O (fun h1 => ?_) (fun h1 => ?_))))))))
 ·(try simp only [aK] at h1)
  refine gX (aO (bI ?_))
  have hkl : k < E.length := by omega
  have hek := hE2 k
  refine aB (jw O O (dA O (Z 0 bQ O dG O (dL aT O (HL.f5).get.2 O (dn O ?_)))))
  obtain ⟨bu, ou, cu, eu⟩ := Rd.qP ((HL.f3).aG) (by omega)
  cases eu
  refine aZ (eG aT bg O O (by omega)) ?_
  refine aZ (jk (eH aA O) O (by first | exact Rd.wG ((HL.f3).aG) (by omega) | exact Rd.Hf ((HL.f3).aG) (by omega) | exact Rd.GX ((HL.f3).aG) (by omega))) ?_
  refine Ad (fun ad3 UQ => ?_)
  refine fO O func117 (Bf HL (fun W HW => (by rw [UQ]; exact (HW.f4).zQ (by omega))) (by omega)) ?_
  rintro u3 w3 H3
  have Hf4 := H3.iZ
  refine jW (jc (vs := [_]) Hf4 aT bg jS O O O (by decide) (aW (by first | rfl | exact Rd.one ((Hf4).pJ)) bG)) ?_
  rintro l5 w5 H5
  refine jW (dQ H5.f3 aT Bc O O O ((H5).aG) (aW (by first | rfl | exact Rd.one ((H5.f2).pJ)) bG) (by omega) (by omega)) ?_
  rintro l6 w6 H6
  have PK := H6.f2.right
  refine oD O (cO (aX (bC (aB (dn O (aZ (fZ O O (by omega)) (oD O (cO ?_))))))))
  have HS := (PK.f6.f6.f6.f4.f5.f6).Oe.f2
  refine eX ((k + 1, l6)) ?_ ?_ ?_ ?_
  ·exact uj
  ·exact pY
  ·(try dsimp only)
   first | done | exact ⟨by omega, _, by rw [DL (d := []) hkl]; exact HS⟩
  ·(try dsimp only); omega
 ·(try simp only [aK] at h1)
  refine gY (aY (aY (dw (bC (bY O (lM O O (Z 1 bQ O ah O (dL ay O (HL.f5).get.2 O ?_))))))))
  refine aZ (fC (zl := [.slice none 0 0, .int .i64 0]) (pl := [(0, 1), (1, 1)]) [_, _] bQ zeroValue120 O (fun w => by kernel_rfl) O (.one (Rd.one ((HL).aG)) (.on .nil)) O) ?_
  refine jW (kC (l := [_, _]) HL O O) ?_
  rintro _ w8 ⟨b8, rfl, H8⟩
  refine jP O (gy results75 O ?_)
  have HL2 := V.qZ (H8.f6.f6.f6.f4.f6.f6)
  rw [List.take_of_length_le (by omega)] at HL2
  have HL3 := V.jq HL2.f2
  exact ⟨_, O, (V.jq (V.qZ HL3.f3.f3).f3).f2⟩
theorem MC {x : Int} (H : V w0 w (eF p (.cells #[wv, nv, .int .i64 x] 77 (0, 0)) • Row 9 1 nv m ys • tY 1 wv m xs • F)) (hy : ∀ u ∈ ys, u.oneCell' = true) (hm : m ≤ 4097) : iQ prog 76 #[.pointer (some ⟨p, 0, none⟩)] w fun v w' => ∃ q nv', v = .pointer (some ⟨q, 0, none⟩) ∧
  V w0 w' (eF q (.cells #[wv, nv', .int .i64 x] 77 (0, 0)) • Row 9 1 nv' m ys • eF p (.cells #[wv, nv, .int .i64 x] 77 (0, 0)) • Row 9 1 nv m ys • tY 1 wv m xs • F) := by
 refine jH func76 ntmps76 ?_
 refine kW O (aO ?_)
 have Ll := H.drew
 have kU := V.kp (Ll.f3.f3.f3)
 refine wL [3, 7, 12] kU O (gK 0 O kU O (jL 1 O kU O (fH 2 O kU 0 dH O kM O (iY 3 O kU (fun W hW => jQ dW O ((Kp.h hW)).get.2 O) (gK 4 O kU O (jL 5 O kU O (fH 6 O kU 1 dH O kM O (iY 7 O kU (fun W hW => jQ dW O ((Kp.h hW)).get.2 O) (gK 9 O kU O (jL 10 O kU O (fH 11 O kU 2 dH O ah O (iY 12 O kU (fun W hW => jQ ay O ((Kp.h hW)).get.2 O) (lU 8 O (dQ (Ll.gV none) dW Zj O O O ((Ll.f2).aG) (by assumption) (by omega) (by omega)) ?_)))))))))))))
 rintro l1 w1 H1
 have Zx := V.kp (H1.f4.f4.f4.f4)
 refine dV Zx (fun W hW => (Kp.h hW).right.f3.f3.f3) ?_
 refine jR 13 O Zx (fun _ => fC (zl := [.slice none 0 0, .slice none 0 0, .int .i64 0]) (pl := [(0, 1), (1, 1), (2, 1)]) [_, _, _] dH zeroValue77 O (fun w => by kernel_rfl) O (.one (Rd.one ((H1.f4).nO)) (.one (Rd.one ((H1).aG)) (.on .nil))) O) ?_
 refine lU 14 O (kC (l := [_, _, _]) H1 O O) ?_
 rintro _ w2 ⟨b2, rfl, H2⟩
 have EZ := V.kp (H2.f5.f5.f5.f5.f5)
 refine fG EZ (by kernel_rfl) ?_
 refine jR 15 O EZ (fun _ => iV O) (qN (bC (oP (gy results76 O ?_))))
 have HQ := H2.f5.f5.f5.f5.f5
 simp only [Nat.zero_add, List.nil_append] at HQ
 exact ⟨_, _, O, HQ⟩
theorem Tc {pb pk : Nat} {pv gv : Value} {x md rs : Int} {t : ByteArray} {ov rn : Bool} (H : V w0 w (kN pb L pt mk • lF pk E place • Row 9 1 nv m ys • tY 1 wv m xs • F)) (hE : E.length ≤ 60 ∧ (place < E.length ∨ place = 0) ∧ ∀ e ∈ E, e.length ≤ 1024) (hy : ∀ u ∈ ys, u.oneCell' = true) (hm : m ≤ 4097) (o1 : pv.oneCell' = true) (o2 : gv.oneCell' = true) :
  iQ prog 31 #[.agg #[.pointer (some ⟨pb, 0, none⟩), .pointer (some ⟨pk, 0, none⟩), wv, nv, .int .i64 x, .string t, pv, gv, .int .i64 md, .bool ov, .int .i64 rs, .bool rn]] w fun v w' => ∃ qb qk nv',
   v = .agg #[.pointer (some ⟨qb, 0, none⟩), .pointer (some ⟨qk, 0, none⟩), wv, nv', .int .i64 x, .string t, pv, gv, .int .i64 md, .bool ov, .int .i64 rs, .bool rn] ∧
   V w0 w' (kN qb L pt mk • lF qk E place • Row 9 1 nv' m ys • kN pb L pt mk • lF pk E place • Row 9 1 nv m ys • tY 1 wv m xs • F) := by
 refine jH func31 ntmps31 ?_
 refine lQ (jW (kC (l := [_, _, _, _, _, _, _, _, _, _, _, _]) H O O) ?_)
 rintro _ w1 ⟨b1, rfl, H1⟩
 refine jW (gq (l := [_, _, _, _, _, _, _, _, _, _, _, _]) H1 zeroValue83 O) ?_
 rintro _ w2 ⟨b2, rfl, H2⟩
 refine Xt (Z 0 bH O mO O (dL kF O (H2.f2).get.2 O (fO O func74 (Qd H2.f3) ?_)))
 rintro _ w3 ⟨q3, rfl, H3⟩
 refine Z 0 bH O mO O (aC (dX 0 (l' := [_, _, _, _, _, _, _, _, _, _, _, _]) H3.f4 mO O O (by first | rfl | assumption) O O) ?_)
 rintro _ w4 H4
 refine Xt (Z 1 bH O sizeOf74 O (dL underlying74 O (H4).get.2 O (fO O func75 (DN H4.f5 (by assumption)) ?_)))
 rintro _ w5 ⟨q5, rfl, H5⟩
 refine Z 1 bH O sizeOf74 O (aC (dX 1 (l' := [_, _, _, _, _, _, _, _, _, _, _, _]) H5.f3 sizeOf74 O O (by first | rfl | assumption) O O) ?_)
 rintro _ w6 H6
 refine Xt (Z 2 bH O mP O (aZ (qX 2 (xs := [_, _, _]) dH O mP O O (H6).get.2 O) (jW (gq (l := [_, _, _]) H6 zeroValue77 O) ?_)))
 rintro _ w7 ⟨b7, rfl, H7⟩
 refine aC (dD 0 (l' := [_, _, _]) (us := [_, _, _]) H7 mP O O O (aW (by first | rfl | exact Rd.one ((H7.f9).nO)) (aW (by first | rfl | exact Rd.one ((H7.f8).aG)) (aH bG))) O O) ?_
 rintro _ w8 H8
 refine Xt (fO O func76 (MC H8.f9.f9.f3 (by assumption) (by omega)) ?_)
 rintro _ w9 ⟨q9, nv9, rfl, H9⟩
 refine dA O (aZ (dF dH O mP O O (H9).get.2) (Z 2 bH O mP O (aC (dD 2 (l' := [_, _, _, _, _, _, _, _, _, _, _, _]) (us := [_, _, _]) H9.f6 mP O O O (aW (by first | rfl | exact Rd.one ((H9.f5).nO)) (aW (by first | rfl | exact Rd.one ((H9.f2).aG)) (aH bG))) O O) ?_)))
 rintro _ w10 rD
 refine Xt (aZ (dF bH O dB O O (rD).get.2) (aC (dD 0 (l' := [_, _, _, _, _, _, _, _, _, _, _, _]) (us := [_, _, _, _, _, _, _, _, _, _, _, _]) rD.f11 dB O O O (aH (aH (aW (by first | rfl | exact Rd.one ((rD.f6).nO)) (aW (by first | rfl | exact Rd.one ((rD.f3).aG)) (aH (aH (aH (aH (aH (aH (aH (aH bG)))))))))))) O O) ?_))
 rintro _ Hr rX
 refine XJ ?_
 refine qO (.inl O) (Jg results31 O bH O (by rw [ad4]; rfl) (rX).get.2) ?_
 exact ⟨_, _, _, O, rX.right.right.right.f2.right.f3.f3.f5.f7.f5.f6.f7⟩
theorem V.aaM {k : IntKind} (H : V w0 w (qK k v l • F)) : V w0 w (qK k v l • qK k v l • F) := H.uf
theorem V.aaN {A : List LE} (H : V w0 w (rW A • F)) : V w0 w (rW A • rW A • F) := H.uf
theorem V.VR {h pb pk : Nat} {wv nv pv gv : Value} {A : List LE} {yf yt : Int} {ch : Bool} {u0 u1 u2 u3 u4 u5 u6 u7 u8 u9 ua ub : Value} (h1 : gB s [] A yf yt) (H : V w0 w (eF y (.cells (.pointer (some ⟨h, 0, none⟩) :: .pointer (some ⟨pb, 0, none⟩) :: .pointer (some ⟨pk, 0, none⟩) :: wv :: nv :: .int .i64 s.c.place :: .string (iK s.hl s.c.tx s.c.place) :: pv :: gv :: .int .i64 s.c.mode :: .bool s.c.over :: .int .i64 s.c.res :: .bool s.c.run :: u0 :: u1 :: u2 :: u3 :: u4 :: u5 :: u6 :: u7 :: u8 :: u9 :: ua :: ub :: .bool s.given :: .bool s.minus :: .int .i64 s.arg :: .int .i64 s.xI :: .int .i64 s.Uo :: .int .i64 s.Ur :: .int .i64 s.nZ :: .bool s.inn :: .int .i64 s.cls :: .int .i64 yf :: .int .i64 yt :: .bool s.argues :: .bool s.kJ :: .bool s.kZ :: .slice none 0 0 :: .bool s.whole :: .bool ch :: []).toArray 85 (0, 0)) • kN pb s.c.L s.c.pt s.c.mark • lF pk s.c.E s.c.at_ • tY 1 wv (s.hl.length + 1) (strs (nN s.hl)) • Row 9 1 nv (s.hl.length + 1) (strs (pV s.hl s.c.tx)) • qK .i64 pv (A.map (·.1)) • tY 1 gv A.length (A.map (·.2.1)) • rW A • jf h s.hl s.base s.most • Ep s.inn s.hl s.was [u0, u1, u2, u3, u4, u5, u6, u7, u8, u9, ua, ub] • F)) : V w0 w (iT y s • F) := by
  refine V.lu (y := y) (h := h) (pb := pb) (pk := pk) (wv := wv) (nv := nv) (pv := pv) (gv := gv) (ch := ch) (u0 := u0) (u1 := u1) (u2 := u2) (u3 := u3) (u4 := u4) (u5 := u5) (u6 := u6) (u7 := u7) (u8 := u8) (u9 := u9) (ua := ua) (ub := ub) (nw := .slice none 0 0) (es := []) h1 ?_
  rw [← h1.says]
  exact (H.uF none).of_eq (by unfold JI; simp only [List.length_nil, List.flatMap_nil, List.map_nil]; ac_rfl)
theorem V.VT {h pb pk : Nat} {wv nv pv gv : Value} {A : List LE} {yf yt : Int} {ch : Bool} {u0 u1 u2 u3 u4 u5 u6 u7 u8 u9 ua ub : Value} (h1 : gB s [] A yf yt) (hi : s.inn = false) (H : V w0 w (eF y (.cells (.pointer (some ⟨h, 0, none⟩) :: .pointer (some ⟨pb, 0, none⟩) :: .pointer (some ⟨pk, 0, none⟩) :: wv :: nv :: .int .i64 s.c.place :: .string (iK s.hl s.c.tx s.c.place) :: pv :: gv :: .int .i64 s.c.mode :: .bool s.c.over :: .int .i64 s.c.res :: .bool s.c.run :: u0 :: u1 :: u2 :: u3 :: u4 :: u5 :: u6 :: u7 :: u8 :: u9 :: ua :: ub :: .bool s.given :: .bool s.minus :: .int .i64 s.arg :: .int .i64 s.xI :: .int .i64 s.Uo :: .int .i64 s.Ur :: .int .i64 s.nZ :: .bool false :: .int .i64 s.cls :: .int .i64 yf :: .int .i64 yt :: .bool s.argues :: .bool s.kJ :: .bool s.kZ :: .slice none 0 0 :: .bool s.whole :: .bool ch :: []).toArray 85 (0, 0)) • kN pb s.c.L s.c.pt s.c.mark • lF pk s.c.E s.c.at_ • tY 1 wv (s.hl.length + 1) (strs (nN s.hl)) • Row 9 1 nv (s.hl.length + 1) (strs (pV s.hl s.c.tx)) • qK .i64 pv (A.map (·.1)) • tY 1 gv A.length (A.map (·.2.1)) • rW A • jf h s.hl s.base s.most • F)) (hu : ([u0, u1, u2, u3, u4, u5, u6, u7, u8, u9, ua, ub].all fun x => x.oneCell') = true) : V w0 w (iT y s • F) := by
  refine V.VR (y := y) (h := h) (pb := pb) (pk := pk) (wv := wv) (nv := nv) (pv := pv) (gv := gv) (ch := ch) (u0 := u0) (u1 := u1) (u2 := u2) (u3 := u3) (u4 := u4) (u5 := u5) (u6 := u6) (u7 := u7) (u8 := u8) (u9 := u9) (ua := ua) (ub := ub) h1 ?_
  rw [hi]
  exact (H.Gy (hl := s.hl) (c := s.was) (u := [u0, u1, u2, u3, u4, u5, u6, u7, u8, u9, ua, ub]) hu).of_eq (by ac_rfl)
theorem NC (H : V w0 w (iT y s • F)) : iQ prog 8 #[.pointer (some ⟨y, 0, none⟩)] w fun v w' => v = .int .i64 s.Dt ∧ V w0 w' (iT y s.bU • F) := by
 refine jH func8 ntmps8 ?_
 refine kW O (aO (aO ?_))
 obtain ⟨MB, zk, zn, zo, zq, BR, BU, Ny, BX, BZ, Bl, Bo, Bq, zu, zx, zy, zA, zB, zC, zD, zF, zG, zH, zI, zJ, jG, qW, lI⟩ := (H).Bj
 have hE9 := jG.rx.1.2
 have hy9 := @Ii (pV s.hl s.c.tx)
 obtain ⟨hv9, hk9, _⟩ := (lI.f9).Gw
 have hhl := hk9.1
 have o1 := (lI.f6).pJ.one
 have o2 := (lI.f7).nO.one
 refine aB (lM O O (Z 32 aI O aN O (dL bf O (lI).get.2 O (kE O (fun h1 => ?_) (fun h1 => ?_)))))
 ·(try simp only [aK] at h1)
  have hin := h1
  refine nM O (aV (gy results8 O ?_))
  have Q9 := lI.f12.f12.f12.f12.f12.f12.f12.f12.f12.f12.f12.f12
  have Oi := V.lu (s := s) jG Q9
  exact ⟨by unfold bP.Dt; rw [if_pos hin], by rw [Lu hin]; exact Oi⟩
 ·(try simp only [aK] at h1)
  have hin := h1
  refine gX (bY O (dA O (Z 32 aI O aN O (aC (mY 32 lI aN) ?_))))
  rintro _ w5 H5
  refine pG O (lM O O (Z 1 aI O dB O (aZ (qX 1 (xs := [_, _, _, _, _, _, _, _, _, _, _, _]) bH O dB O O (H5).get.2 O) (fO O func31 (Tc H5.f4.f5.f5.f5 (by assumption) (by assumption) (by omega) (by assumption) (by assumption)) ?_))))
  rintro _ w6 ⟨qb6, qk6, nv6, rfl, H6⟩
  refine dA O (Z 13 aI O dB O (aC (dD 13 (l' := [_, _, _, _, _, _, _, _, _, _, _, _, _, _, _, _, _, _, _, _, _, _, _, _, _, _, _, _, _, _, _, _, _, _, _, _, _, _, _, _, _, _]) (us := [_, _, _, _, _, _, _, _, _, _, _, _]) H6.f8 dB O O O (aH (aH (aW (by first | rfl | exact Rd.one ((H6.f7).nO)) (aW (by first | rfl | exact Rd.one ((H6.f3).aG)) (aH (aH (aW (by first | rfl | exact Rd.one ((H6.f9).pJ)) (aW (by first | rfl | exact Rd.one ((H6.f10).nO)) (aH (aH (aH (aH bG)))))))))))) O O) ?_))
  rintro _ w7 H7
  refine pG O (jw O O (dA O (Z 33 aI O ah O (aC (mY 33 H7 ah) ?_))))
  rintro _ w8 H8
  refine dA O (Z 34 aI O ah O (aC (mY 34 H8 ah) ?_))
  rintro _ w9 H9
  refine dA O (Z 35 aI O ah O (aC (mY 35 H9 ah) ?_))
  rintro _ w10 rD
  refine pG O (jw O O (jw O O (dA O (Z 36 aI O aN O (aC (mY 36 rD aN) ?_)))))
  rintro _ Hr rX
  refine dA O (Z 37 aI O aN O (aC (mY 37 rX aN) ?_))
  rintro _ w12 vN
  refine dA O (Z 38 aI O aN O (aC (mY 38 vN aN) ?_))
  rintro _ TB AB
  refine dA O (Z 40 aI O aN O (aC (mY 40 AB aN) ?_))
  rintro _ Qu AL
  refine dA O (Z 41 aI O aN O (aC (mY 41 AL aN) ?_))
  rintro _ TD Bz
  refine pG O (dA O (Z 39 aI O bn O (aC (mY 39 Bz bn) ?_)))
  rintro _ w16 wE
  refine iF (nM O (gy results8 O ?_))
  have hin' : s.inn = false := by simpa using hin
  have Ut := wE.f8
  have Yk := Ut.Zm
  have acz := Yk.f10
  have acA := acz.aaM
  have ab5 := acA.f12
  have ab6 := ab5.Zm
  have acB := ab6.f14
  have afC := acB.aaN
  have Zy := afC.f2.f4.f6.f12.f9.f12.f12
  have Zz := V.aaL (c := s.c) jG.CS jG.placed Zy
  have HX := Zz.f11.right.f11.right.f11.right.f10.f3.f4.f5.f10.f7.f10.f10.f10
  rw [show s.xI = s.c.last from if_neg (by simp [hin']), show s.Uo = s.c.fr from if_neg (by simp [hin']), show s.Ur = s.c.to from if_neg (by simp [hin'])] at HX
  exact ⟨by unfold bP.Dt; rw [if_neg (by simp [hin'])], by rw [yS hin']; exact V.VR (yS hin' ▸ jG.begin hin') HX⟩
end
end Go.Proofs.YtnhhmieghbfalaaGreat
end
