import Derived.Test.YtgofgnlkpeghcaaGreatDoorZ4
import Derived.Test.YtgofgnlkpeghcaaGreatDoorZ18
import Derived.Test.YtgofgnlkpeghcaaGreatDoorZ11
import Derived.Test.YtgofgnlkpeghcaaGreatDoorZ13
set_option linter.unusedSimpArgs false
set_option linter.unusedVariables false
/- Texts of mine, joined, their names in short: REd EdSt REdX RLs2 REdA REd0 EBoth0 REdB. -/
section
namespace Go.Proofs.YtgofgnlkpeghcaaGreatDoor
open Go.RowKit
def mW (hl : List oH) (tx : Int → Option ByteArray) : List ByteArray := (List.range (hl.length + 1)).map fun (k : Nat) => dR hl tx (k : Int)
theorem pG (hl : List oH) (tx : Int → Option ByteArray) : (mW hl tx).length = hl.length + 1 := by simp [mW]
theorem DU (hl : List oH) : (nP hl).length = hl.length + 1 := by simp [nP]
theorem BQ {hl : List oH} {tx : Int → Option ByteArray} {k : Nat} (hk : k ≤ hl.length) : (mW hl tx).getD k .empty = dR hl tx k := by
  unfold mW
  rw [List.getD_eq_getElem?_getD, List.getElem?_map, List.getElem?_range (by omega)]; rfl
theorem Vl {hl : List oH} {k : Nat} (hk : k ≤ hl.length) : (nP hl).getD k .empty = vC hl k := by
  unfold nP vC Sj
  by_cases h : k < hl.length
  · rw [if_pos (by omega), List.getD_eq_getElem?_getD, List.getElem?_append_left (by simpa using h), List.getElem?_map, List.getElem?_eq_getElem h]
    simp [List.getD_eq_getElem?_getD, h]
  · obtain rfl : k = hl.length := by omega
    rw [if_neg (by omega), List.getD_eq_getElem?_getD, List.getElem?_append_right (by simp)]
    simp
theorem O4 (hl : List oH) : mW hl (fun _ => none) = nP hl := by
  apply List.ext_getElem?
  intro k
  by_cases h : k ≤ hl.length
  · have h1 := BQ (tx := fun _ => none) h
    have h2 := Vl h
    rw [List.getD_eq_getElem?_getD, List.getElem?_eq_getElem (by rw [pG]; omega)] at h1
    rw [List.getD_eq_getElem?_getD, List.getElem?_eq_getElem (by rw [DU]; omega)] at h2
    rw [List.getElem?_eq_getElem (by rw [pG]; omega), List.getElem?_eq_getElem (by rw [DU]; omega)]
    simp only [Option.getD_some] at h1 h2
    rw [h1, h2]; rfl
  · rw [List.getElem?_eq_none (by rw [pG]; omega), List.getElem?_eq_none (by rw [DU]; omega)]
theorem Zr (hl : List oH) (tx : Int → Option ByteArray) {k : Nat} (b : ByteArray) (hk : k ≤ hl.length) : (mW hl tx).set k b = mW hl (sV tx k (some b)) := by
  apply List.ext_getElem?
  intro j
  by_cases h : j ≤ hl.length
  · have h1 := BQ (tx := tx) h
    have h2 := BQ (tx := sV tx k (some b)) h
    rw [List.getD_eq_getElem?_getD, List.getElem?_eq_getElem (by rw [pG]; omega)] at h1 h2
    simp only [Option.getD_some] at h1 h2
    rw [List.getElem?_set]
    by_cases e : k = j
    · subst e
      rw [if_pos rfl, if_pos (by rw [pG]; omega), List.getElem?_eq_getElem (by rw [pG]; omega), h2]
      unfold dR; rw [kL]; rfl
    · rw [if_neg e, List.getElem?_eq_getElem (by rw [pG]; omega), List.getElem?_eq_getElem (by rw [pG]; omega), h1, h2]
      unfold dR; rw [uK _ _ (by omega)]
  · rw [List.getElem?_eq_none (by rw [List.length_set, pG]; omega), List.getElem?_eq_none (by rw [pG]; omega)]
def Jo (c : qQ) : Prop := (∀ k, iD (c.un k) [] ≤ 16384 ∧ ∀ g ∈ c.un k, g ≠ []) ∧ (c.E.length ≤ 60 ∧ (c.at_ < c.E.length ∨ c.at_ = 0) ∧ ∀ e ∈ c.E, e.length ≤ 1024)
def RX (s : dw) : Prop := Jo s.c ∧ (s.inn = true → Jo s.was ∧ s.c.last = s.was.last ∧ (s.lY = false → s.c.fr = s.was.fr ∧ s.c.to = s.was.to)) ∧ (s.inn = true → s.cls = 2 → s.lY = true)
def zx (hl : List oH) (A : List LE) : Prop := (A.map (·.1)).Nodup ∧ ∀ x ∈ A.map (·.1), 0 ≤ x ∧ x ≤ (hl.length : Int)
def Kt (pb pk : Nat) (wv nv pv gv : Value) (hl : List oH) (c : qQ) : List Value := [.pointer (some ⟨pb, 0, none⟩), .pointer (some ⟨pk, 0, none⟩), wv, nv, .int .i64 c.place, .string (dR hl c.tx c.place), pv, gv, .int .i64 c.mode, .bool c.over, .int .i64 c.res, .bool c.run]
structure ROP where
  pb : Nat
  pk : Nat
  wv : Value
  nv : Value
  pv : Value
  gv : Value
  A : List LE
def DV (inn : Bool) (hl : List oH) (c : qQ) (u : List Value) : HP := if inn = true then yC fun (x : ROP) => fact (u = Kt x.pb x.pk x.wv x.nv x.pv x.gv hl c ∧ EN x.A = c.un ∧ zx hl x.A ∧ (u.all fun x => x.oneCell') = true) •
  kJ x.pb c.L c.pt c.mark • mD x.pk c.E c.at_ • uQ 1 x.wv (hl.length + 1) (strs (nP hl)) • Row 9 1 x.nv (hl.length + 1) (strs (mW hl c.tx)) • nS .i64 x.pv (x.A.map (·.1)) • uQ 1 x.gv x.A.length (x.A.map (·.2.1)) • tq x.A else fact ((u.all fun x => x.oneCell') = true)
structure iw (s : dw) (es : List fJ) (A : List LE) (yf yt : Int) : Prop where
  ok : pz s
  rx : RX s
  says : es.map fJ.says = s.put
  EN : EN A = s.c.un
  placed : zx s.hl A
  L9 : s.inn = true → s.lY = true → yf = s.c.fr ∧ yt = s.c.to
structure RdP where
  h : Nat
  pb : Nat
  pk : Nat
  wv : Value
  nv : Value
  pv : Value
  gv : Value
  A : List LE
  nw : Value
  es : List fJ
  yf : Int
  yt : Int
  ch : Bool
  u0 : Value
  u1 : Value
  u2 : Value
  u3 : Value
  u4 : Value
  u5 : Value
  u6 : Value
  u7 : Value
  u8 : Value
  u9 : Value
  ua : Value
  ub : Value
def ku (y : Nat) (s : dw) : HP := yC fun (x : RdP) => match x with
  | ⟨h, pb, pk, wv, nv, pv, gv, A, nw, es, yf, yt, ch, u0, u1, u2, u3, u4, u5, u6, u7, u8, u9, ua, ub⟩ => fact (iw s es A yf yt) • eF y (.cells (.pointer (some ⟨h, 0, none⟩) :: .pointer (some ⟨pb, 0, none⟩) :: .pointer (some ⟨pk, 0, none⟩) :: wv :: nv :: .int .i64 s.c.place :: .string (dR s.hl s.c.tx s.c.place) :: pv :: gv :: .int .i64 s.c.mode :: .bool s.c.over :: .int .i64 s.c.res :: .bool s.c.run :: u0 :: u1 :: u2 :: u3 :: u4 :: u5 :: u6 :: u7 :: u8 :: u9 :: ua :: ub :: .bool s.given :: .bool s.minus :: .int .i64 s.arg :: .int .i64 s.zV :: .int .i64 s.UA :: .int .i64 s.UC :: .int .i64 s.sK :: .bool s.inn :: .int .i64 s.cls :: .int .i64 yf :: .int .i64 yt :: .bool s.argues :: .bool s.nV :: .bool s.lY :: nw :: .bool s.whole :: .bool ch :: []).toArray 98 (0, 0)) • kJ pb s.c.L s.c.pt s.c.mark • mD pk s.c.E s.c.at_ • uQ 1 wv (s.hl.length + 1) (strs (nP s.hl)) • Row 9 1 nv (s.hl.length + 1) (strs (mW s.hl s.c.tx)) • nS .i64 pv (A.map (·.1)) • uQ 1 gv A.length (A.map (·.2.1)) • tq A • iW h s.hl s.base s.most • Row 183 3 nw s.put.length (es.flatMap fJ.enc) • nX es • DV s.inn s.hl s.was [u0, u1, u2, u3, u4, u5, u6, u7, u8, u9, ua, ub]
section
variable {w0 w : World} {F : HP} {y : Nat} {s : dw}
theorem V.Ce (H : V w0 w (ku y s • F)) : ∃ h pb pk wv nv pv gv A nw es yf yt ch u0 u1 u2 u3 u4 u5 u6 u7 u8 u9 ua ub, iw s es A yf yt ∧ es.length = s.put.length ∧ V w0 w (eF y (.cells (.pointer (some ⟨h, 0, none⟩) :: .pointer (some ⟨pb, 0, none⟩) :: .pointer (some ⟨pk, 0, none⟩) :: wv :: nv :: .int .i64 s.c.place :: .string (dR s.hl s.c.tx s.c.place) :: pv :: gv :: .int .i64 s.c.mode :: .bool s.c.over :: .int .i64 s.c.res :: .bool s.c.run :: u0 :: u1 :: u2 :: u3 :: u4 :: u5 :: u6 :: u7 :: u8 :: u9 :: ua :: ub :: .bool s.given :: .bool s.minus :: .int .i64 s.arg :: .int .i64 s.zV :: .int .i64 s.UA :: .int .i64 s.UC :: .int .i64 s.sK :: .bool s.inn :: .int .i64 s.cls :: .int .i64 yf :: .int .i64 yt :: .bool s.argues :: .bool s.nV :: .bool s.lY :: nw :: .bool s.whole :: .bool ch :: []).toArray 98 (0, 0)) • kJ pb s.c.L s.c.pt s.c.mark • mD pk s.c.E s.c.at_ • uQ 1 wv (s.hl.length + 1) (strs (nP s.hl)) • Row 9 1 nv (s.hl.length + 1) (strs (mW s.hl s.c.tx)) • nS .i64 pv (A.map (·.1)) • uQ 1 gv A.length (A.map (·.2.1)) • tq A • iW h s.hl s.base s.most • Row 183 3 nw s.put.length (es.flatMap fJ.enc) • nX es • DV s.inn s.hl s.was [u0, u1, u2, u3, u4, u5, u6, u7, u8, u9, ua, ub] • F) := by
  obtain ⟨⟨h, pb, pk, wv, nv, pv, gv, A, nw, es, yf, yt, ch, u0, u1, u2, u3, u4, u5, u6, u7, u8, u9, ua, ub⟩, H⟩ := H.pO
  obtain ⟨h1, H⟩ := H.flat.fact
  refine ⟨h, pb, pk, wv, nv, pv, gv, A, nw, es, yf, yt, ch, u0, u1, u2, u3, u4, u5, u6, u7, u8, u9, ua, ub, h1, ?_, ?_⟩
  · rw [← h1.says]; simp
  · exact H.of_eq (by simp only [dK])
theorem V.mV {h pb pk : Nat} {wv nv pv gv : Value} {A : List LE} {nw : Value} {es : List fJ} {yf yt : Int} {ch : Bool} {u0 u1 u2 u3 u4 u5 u6 u7 u8 u9 ua ub : Value} (h1 : iw s es A yf yt) (H : V w0 w (eF y (.cells (.pointer (some ⟨h, 0, none⟩) :: .pointer (some ⟨pb, 0, none⟩) :: .pointer (some ⟨pk, 0, none⟩) :: wv :: nv :: .int .i64 s.c.place :: .string (dR s.hl s.c.tx s.c.place) :: pv :: gv :: .int .i64 s.c.mode :: .bool s.c.over :: .int .i64 s.c.res :: .bool s.c.run :: u0 :: u1 :: u2 :: u3 :: u4 :: u5 :: u6 :: u7 :: u8 :: u9 :: ua :: ub :: .bool s.given :: .bool s.minus :: .int .i64 s.arg :: .int .i64 s.zV :: .int .i64 s.UA :: .int .i64 s.UC :: .int .i64 s.sK :: .bool s.inn :: .int .i64 s.cls :: .int .i64 yf :: .int .i64 yt :: .bool s.argues :: .bool s.nV :: .bool s.lY :: nw :: .bool s.whole :: .bool ch :: []).toArray 98 (0, 0)) • kJ pb s.c.L s.c.pt s.c.mark • mD pk s.c.E s.c.at_ • uQ 1 wv (s.hl.length + 1) (strs (nP s.hl)) • Row 9 1 nv (s.hl.length + 1) (strs (mW s.hl s.c.tx)) • nS .i64 pv (A.map (·.1)) • uQ 1 gv A.length (A.map (·.2.1)) • tq A • iW h s.hl s.base s.most • Row 183 3 nw s.put.length (es.flatMap fJ.enc) • nX es • DV s.inn s.hl s.was [u0, u1, u2, u3, u4, u5, u6, u7, u8, u9, ua, ub] • F)) : V w0 w (ku y s • F) :=
  V.jG ⟨h, pb, pk, wv, nv, pv, gv, A, nw, es, yf, yt, ch, u0, u1, u2, u3, u4, u5, u6, u7, u8, u9, ua, ub⟩ (V.deep (V.oG h1 (H.of_eq (by simp only [dK]))))
theorem Zt {inn : Bool} {hl : List oH} {c : qQ} {u : List Value} (H : V w0 w (DV inn hl c u • F)) : (u.all fun x => x.oneCell') = true := by
  unfold DV at H
  cases inn with
  | true =>
    rw [if_pos rfl] at H
    obtain ⟨x, H⟩ := H.pO
    exact H.flat.fact.1.2.2.2
  | false =>
    rw [if_neg (by decide)] at H
    exact H.fact.1
theorem V.Jp {hl : List oH} {c : qQ} {u : List Value} (H : V w0 w F) (hu : (u.all fun x => x.oneCell') = true) : V w0 w (DV false hl c u • F) := by
  unfold DV
  rw [if_neg (by decide)]
  exact H.oG hu
theorem V.ahQ {hl : List oH} {c : qQ} {u : List Value} (H : V w0 w (DV true hl c u • F)) : ∃ pb pk wv nv pv gv A, u = Kt pb pk wv nv pv gv hl c ∧ EN A = c.un ∧ zx hl A ∧ (u.all fun x => x.oneCell') = true ∧
    V w0 w (kJ pb c.L c.pt c.mark • mD pk c.E c.at_ • uQ 1 wv (hl.length + 1) (strs (nP hl)) • Row 9 1 nv (hl.length + 1) (strs (mW hl c.tx)) • nS .i64 pv (A.map (·.1)) • uQ 1 gv A.length (A.map (·.2.1)) • tq A • F) := by
  unfold DV at H
  rw [if_pos rfl] at H
  obtain ⟨⟨pb, pk, wv, nv, pv, gv, A⟩, H⟩ := H.pO
  obtain ⟨⟨h1, h2, h3, h4⟩, H⟩ := H.flat.fact
  exact ⟨pb, pk, wv, nv, pv, gv, A, h1, h2, h3, h4, H.of_eq (by simp only [dK])⟩
theorem V.ac1 {hl : List oH} {c : qQ} {pb pk : Nat} {wv nv pv gv : Value} {A : List LE} (h2 : EN A = c.un) (h3 : zx hl A) (H : V w0 w (kJ pb c.L c.pt c.mark • mD pk c.E c.at_ • uQ 1 wv (hl.length + 1) (strs (nP hl)) • Row 9 1 nv (hl.length + 1) (strs (mW hl c.tx)) • nS .i64 pv (A.map (·.1)) • uQ 1 gv A.length (A.map (·.2.1)) • tq A • F)) : V w0 w (DV true hl c (Kt pb pk wv nv pv gv hl c) • F) := by
  have o1 := (H.f3).oD.one
  have o2 := (H.f4).aN.one
  have o3 := (H.f5).jh.one
  have o4 := (H.f6).oD.one
  have hu : ((Kt pb pk wv nv pv gv hl c).all fun x => x.oneCell') = true := by
    unfold Kt
    simp only [List.all_cons, List.all_nil, o1, o2, o3, o4, Bool.and_true, Bool.true_and]
    rfl
  unfold DV
  rw [if_pos rfl]
  exact V.jG ⟨pb, pk, wv, nv, pv, gv, A⟩ (V.deep (V.oG ⟨rfl, h2, h3, hu⟩ (H.of_eq (by simp only [dK]))))
end
end Go.Proofs.YtgofgnlkpeghcaaGreatDoor
end
section
namespace Go.Proofs.YtgofgnlkpeghcaaGreatDoor
open Go.RowKit
open _root_.Go.Proofs.Tryz
def dw.tu (s : dw) (l : List Int) : Int := if s.inn then 1 else if 1024 < l.length then 3 else 0
def dw.FC (s : dw) (hl : List oH) (base most : Int) (l : List Int) : dw := if s.tu l = 0 then s.start hl base most l else s
theorem Vm {s : dw} (h : pz s) (hi : s.inn = false) (hl : List oH) (base most : Int) (l : List Int) : pz (s.start hl base most l) := by
  obtain ⟨h1, h2, h3, h4, h5, h6⟩ := h
  refine ⟨UY _ _ _ _ _, fun h => absurd (show s.inn = true from h) (by rw [hi]; decide), ⟨by show (-1 : Int) ≤ -1; decide, by show (-1 : Int) ≤ 1000000; decide⟩, h4, ?_, by simp [dw.start, qQ.fresh]⟩
  show iD [] s.put ≤ 16384
  unfold iD at *; simp at *; omega
section
variable {w0 w : World} {F : HP} {e p h pr : Nat} {s : dw} {hl : List oH} {base most m : Int} {v : Value} {l : List Int}
theorem Jq (H : V w0 w (jq e s • iI h hl base most • F)) (hr : jm w0 F .i32 v l) : iM prog 21 #[.pointer (some ⟨e, 0, none⟩), .pointer (some ⟨h, 0, none⟩), v] w fun v' w' =>
  v' = .int .i64 (s.tu l) ∧ V w0 w' (jq e (s.FC hl base most l) • iI h hl base most • F) := by
 unfold dw.FC
 refine NC func21 ntmps21 ?_
 refine kQ O (aO (bg (bY O (fE O func49 (zY H) ?_))))
 rintro _ _ ⟨rfl, rfl⟩
 refine bT O (bW (bT O (bW (fE O func53 (xY H.f2) ?_))))
 rintro _ w2 ⟨q2, rfl, H2⟩
 refine bW (aW (iJ lu O O) (kX O O (iP O (Ip O (fun h1 => ?_)))))
 (try simp only [aF] at h1)
 refine aO ?_
 have Hd3 := H2.right
 obtain ⟨Ap, Aq, Ar, Au, Aw, Az, AA, AB, yE, xk, xq, xu, xw, xA, xB, xC, xE, xG, xH, xI, jf, dX, nG, kF⟩ := (Hd3.f2).Ox
 refine aA (mJ O O (bn 16 ah O aQ O (fB cZ O (kF).get.2 O (iP O (dA O (fun h2 => ?_) (fun h2 => ?_))))))
 ·(try simp only [aF] at h2)
  have hin := h2
  have hE : s.tu l = 1 := by unfold dw.tu; rw [if_pos hin]
  refine mP O (aX (aC (fD results21 O ?_)))
  have Ho6 := kF.f11.f11.f11.f11.f11.f11.f11.f11.f11.f11.f11
  have Hc7 := V.jX (s := s) jf dX Ho6
  exact ⟨by rw [hE], by rw [if_neg (by rw [hE]; decide)]; exact Hc7.f2.f2⟩
 ·(try simp only [aF] at h2)
  have hin : s.inn = false := by simpa using h2
  refine bY O (aW (jJ (hr _ (kF.right.right.right.right.right.right.right.right.right.right.right.right)) ay O) (aW (iT O O) (iP O (dA O (fun h3 => ?_) (fun h3 => ?_)))))
  ·(try simp only [aF] at h3)
   have hbig := h3
   have hE : s.tu l = 3 := by unfold dw.tu; rw [if_neg (by simp [hin]), if_pos (by omega)]
   refine mP O (aX (aC (fD results21 O ?_)))
   have Ho9 := kF.f11.f11.f11.f11.f11.f11.f11.f11.f11.f11.f11
   have Zu := V.jX (s := s) jf dX Ho9
   exact ⟨by rw [hE], by rw [if_neg (by rw [hE]; decide)]; exact Zu.f2.f2⟩
  ·(try simp only [aF] at h3)
   have hE : s.tu l = 0 := by unfold dw.tu; rw [if_neg (by simp [hin]), if_neg (by have h9 := h3; omega)]
   have hsh : l.length ≤ 1024 := by have h9 := h3; omega
   refine dS (aP (aZ (bY O (jy O O (fE O func55 (Gz (E := s.c.E) (a := s.c.at_) kF.f2.right.f3.right.f3.right.f3.right.f3.right.f6.f6.f6.f6.f6.f7.f7 (fun W HW => hr W HW.right.right.right.right.right) hsh) ?_)))))
   rintro _ Iq ⟨qb, qw, qt, qm, qh, sG⟩
   refine jd (mP O (fD results21 O ?_))
   exact ⟨by rw [hE], by rw [if_pos hE]; exact V.jX (s := s.start hl base most l) (Vm jf hin _ _ _ _) dX sG.f7.f12.f12.f12.f12.f11.f11.f11.f11.f12.f12.f12⟩
end
end Go.Proofs.YtgofgnlkpeghcaaGreatDoor
end
section
namespace Go.Proofs.YtgofgnlkpeghcaaGreatDoor
open Go.RowKit
section
variable {s : dw} {es : List fJ} {A : List LE} {yf yt : Int}
theorem iw.nC (h : iw s es A yf yt) (L : List Int) (p m : Int) : iw (s.nC L p m) es A yf yt := ⟨Bl h.ok _ _ _, h.rx, h.says, h.EN, h.placed, h.L9⟩
theorem iw.begin (h : iw s es A yf yt) (hi : s.inn = false) : iw s.lg [] A 0 0 := by
  have h1 := UZ h.ok hi
  have h0 := h.rx.1
  have hl := h.EN
  have hq := h.placed
  rw [Bj hi] at h1 ⊢
  exact ⟨h1, ⟨h0, fun _ => ⟨h0, rfl, fun _ => ⟨rfl, rfl⟩⟩, fun _ h2 => absurd h2 (by show ¬ (0 : Int) = 2; decide)⟩, rfl, hl, hq, fun _ h2 => absurd h2 (by show ¬ false = true; decide)⟩
theorem Ku {c : qQ} (h : Jo c) {k : Int} {G : List (List kC)} (h1 : iD G [] ≤ 16384) (h2 : ∀ g ∈ G, g ≠ []) : Jo { c with un := sV c.un k G } := by
  refine ⟨fun j => ?_, h.2⟩
  show iD (sV c.un k G j) [] ≤ 16384 ∧ ∀ g ∈ sV c.un k G j, g ≠ []
  by_cases hj : j = k
  · subst hj; rw [kL]; exact ⟨h1, h2⟩
  · rw [uK _ _ hj]; exact h.1 j
theorem iw.more (h : iw s es A yf yt) (hin : s.inn = true) {x : kC} {e : fJ} (he : e.says = x) (hx : 0 < x.2.1.length + x.2.2.length) (hok : zX x) (hf : ¬ 16384 ≤ iD s.here s.put) : iw (s.BM x) (es ++ [e]) A yf yt := by
  have h1 := MX (x := x) h.ok (fun _ => hok)
  rw [wW hx hf] at h1 ⊢
  exact ⟨h1, ⟨h.rx.1, h.rx.2.1, h.rx.2.2⟩, by rw [List.map_append, h.says, ← he]; rfl, h.EN, h.placed, h.L9⟩
theorem iw.full (h : iw s es A yf yt) (hin : s.inn = true) {x : kC} {e : fJ} {A' : List LE} (he : e.says = x) (hx : 0 < x.2.1.length + x.2.2.length) (hok : zX x) (hf : 16384 ≤ iD s.here s.put)
    (hA : _root_.Go.Proofs.YtgofgnlkpeghcaaGreatDoor.EN A' = sV s.c.un s.c.place []) (hP : zx s.hl A') : iw (s.BM x) [e] A' yf yt := by
  have h1 := MX (x := x) h.ok (fun _ => hok)
  rw [wX hx hf] at h1 ⊢
  exact ⟨h1, ⟨Ku h.rx.1 (by decide) (by simp), h.rx.2.1, h.rx.2.2⟩, by rw [← he]; rfl, hA, hP, h.L9⟩
theorem iw.none (h : iw s es A yf yt) {x : kC} (hx : x.2.1.length + x.2.2.length = 0) : iw (s.BM x) es A yf yt := by rw [DN hx]; exact h
theorem Jr (h : pz s) (hx : Jo s.c) (hp : s.put ≠ []) (on : Bool) : iD (s.lF on) [] ≤ 16384 ∧ (∀ g ∈ s.lF on, g ≠ []) ∧ ∀ g ∈ s.lF on, ∀ e ∈ g, zX e := by
  obtain ⟨h1, h2, h3, h4, h5, h6⟩ := h
  have hs := nH s.here s.put
  have hne := (hx.1 s.c.place).2
  have h6' : ∀ g ∈ s.here, ∀ e ∈ g, zX e := h6 s.c.place
  have key : ∀ (G : List (List kC)) (g : List kC), iD (G ++ [g]) [] ≤ iD s.here s.put → (∀ x ∈ G, x ∈ s.here) → (∀ e ∈ g, zX e) → g ≠ [] →
      iD (G ++ [g]) [] ≤ 16384 ∧ (∀ x ∈ G ++ [g], x ≠ []) ∧ ∀ x ∈ G ++ [g], ∀ e ∈ x, zX e := by
    intro G g a1 a2 a3 a4
    refine ⟨by omega, fun x hx => ?_, fun x hx => ?_⟩
    · rcases List.mem_append.1 hx with hx | hx
      · exact hne x (a2 x hx)
      · rw [List.mem_singleton.1 hx]; exact a4
    · rcases List.mem_append.1 hx with hx | hx
      · exact h6' x (a2 x hx)
      · rw [List.mem_singleton.1 hx]; exact a3
  unfold dw.lF
  rw [if_neg hp]
  cases on with
  | false =>
    rw [if_neg (by decide)]
    exact key s.here s.put (by rw [Jd]; omega) (fun x hx => hx) h4 hp
  | true =>
    rw [if_pos rfl]
    by_cases h0 : s.here = []
    · rw [h0]
      exact key [] s.put (by rw [Jd, abb]; omega) (fun x hx => by cases hx) h4 hp
    · rw [List.getLast?_eq_some_getLast h0]
      have hd := Jc h0
      have h2 : s.here.getLastD [] = s.here.getLast h0 := by rw [List.getLastD_eq_getLast?, List.getLast?_eq_some_getLast h0]; rfl
      rw [h2] at hd
      refine key s.here.dropLast (s.here.getLast h0 ++ s.put) ?_ (fun x hx => List.dropLast_subset _ hx) (fun e he => ?_) (fun he => hp (List.append_eq_nil_iff.1 he).2)
      · rw [Jd, List.length_append, hs]
        unfold iD
        simp only [List.length_nil, Nat.add_zero]
        omega
      · rcases List.mem_append.1 he with he | he
        · exact h6' _ (List.getLast_mem h0) e he
        · exact h4 e he
theorem QW (h : pz s) (hx : Jo s.c) (on : Bool) : pz (s.fM on) := by
  by_cases hp : s.put = []
  · rw [BO hp]; exact h
  · obtain ⟨f1, f2, f3⟩ := Jr h hx hp on
    rw [oW hp]
    obtain ⟨h1, h2, h3, h4, h5, h6⟩ := h
    refine ⟨h1, h2, h3, by simp, ?_, fun k g hg => ?_⟩
    · show iD (sV s.c.un s.c.place (s.lF on) s.c.place) [] ≤ 16384
      rw [kL]; exact f1
    · have hg' : g ∈ sV s.c.un s.c.place (s.lF on) k := hg
      by_cases hk : k = s.c.place
      · subst hk; rw [kL] at hg'; exact f3 g hg'
      · rw [uK _ _ hk] at hg'; exact h6 k g hg'
theorem QX (h : pz s) (hx : RX s) (on : Bool) : RX (s.fM on) := by
  by_cases hp : s.put = []
  · rw [BO hp]; exact hx
  · obtain ⟨f1, f2, f3⟩ := Jr h hx.1 hp on
    rw [oW hp]
    exact ⟨Ku hx.1 f1 f2, hx.2.1, hx.2.2⟩
theorem iw.sub (h : iw s es A yf yt) {G : List (List kC)} {A' : List LE} (h1 : iD G s.put ≤ iD s.here s.put) (h2 : ∀ g ∈ G, g ∈ s.here) (hA : _root_.Go.Proofs.YtgofgnlkpeghcaaGreatDoor.EN A' = sV s.c.un s.c.place G) (hP : zx s.hl A') : iw (s.qR G) es A' yf yt := by
  have ht := (h.rx.1.1 s.c.place).1
  have he : iD s.here s.put = iD s.here [] + s.put.length := nH _ _
  have hg : iD G s.put = iD G [] + s.put.length := nH _ _
  have hh : iD s.here [] ≤ 16384 := ht
  exact ⟨aew h.ok h1 h2, ⟨Ku h.rx.1 (by omega) (fun g hg => (h.rx.1.1 s.c.place).2 g (h2 g hg)), h.rx.2.1, h.rx.2.2⟩, h.says, hA, hP, h.L9⟩
theorem QY (h : Jo s.c) : s.here.length ≤ 16384 := by
  have h1 := (h.1 s.c.place).1
  have h2 := (h.1 s.c.place).2
  have key : ∀ G : List (List kC), (∀ g ∈ G, g ≠ []) → G.length ≤ (G.map List.length).sum := by
    intro G hG
    induction G with
    | nil => simp
    | cons g r ih =>
      have := ih (fun x hx => hG x (List.mem_cons_of_mem _ hx))
      have h3 : 0 < g.length := List.length_pos_iff.2 (hG g (List.mem_cons_self ..))
      simp only [List.length_cons, List.map_cons, List.sum_cons]
      omega
  have h4 := key (s.c.un s.c.place) h2
  unfold iD at h1
  simp only [List.length_nil, Nat.add_zero] at h1
  exact Nat.le_trans h4 h1
theorem Vo (h : iw s es A yf yt) : s.here.length ≤ 16384 := QY h.rx.1
theorem Ic {hl : List oH} {A : List LE} {k : Int} {u : Value} {gs : List (Value × List fJ)} (h : zx hl A) (hk : 0 ≤ k ∧ k ≤ hl.length) : zx hl (AQ A k u gs) := ac0 h hk
end
end Go.Proofs.YtgofgnlkpeghcaaGreatDoor
end
section
namespace Go.Proofs.YtgofgnlkpeghcaaGreatDoor
open Go.RowKit
open _root_.Go.Proofs.Tryz
theorem SY {A : List LE} {i : Nat} (h : i < A.length) : (A.map (·.1)).getD i 0 = (A.getD i default).1 := by simp [List.getD_eq_getElem?_getD, h]
theorem Yq {A : List LE} {i : Nat} (h : i < A.length) : (A.map (·.2.1)).getD i undef = (A.getD i default).2.1 := by simp [List.getD_eq_getElem?_getD, h]
theorem QZ {A : List LE} {p : LE → Bool} {i : Nat} (h : i < A.length) : (A.take (i + 1)).filter p = (A.take i).filter p ++ (if p (A.getD i default) then [A.getD i default] else []) := by
  rw [List.take_succ_eq_append_getElem h, List.filter_append, List.getD_eq_getElem?_getD, List.getElem?_eq_getElem h]
  simp only [Option.getD_some, List.filter_cons, List.filter_nil]
section
variable {w0 w : World} {F : HP} {y : Nat} {k : Int} {pv gv u : Value} {A : List LE} {gs : List (Value × List fJ)}
theorem Ie {x0 x1 x2 x3 x4 x5 x6 x9 x10 x11 x12 tZ x14 x15 x16 x17 x18 x19 x20 x21 uq x23 x24 x25 uz x27 x28 x29 x30 x31 x32 uX x34 D5 D6 D7 x38 x39 x40 x41 : Value} (H : V w0 w (eF y (.cells (x0 :: x1 :: x2 :: x3 :: x4 :: x5 :: x6 :: pv :: gv :: x9 :: x10 :: x11 :: x12 :: tZ :: x14 :: x15 :: x16 :: x17 :: x18 :: x19 :: x20 :: x21 :: uq :: x23 :: x24 :: x25 :: uz :: x27 :: x28 :: x29 :: x30 :: x31 :: x32 :: uX :: x34 :: D5 :: D6 :: D7 :: x38 :: x39 :: x40 :: x41 :: []).toArray 98 (0, 0)) • nS .i64 pv (A.map (·.1)) • uQ 1 gv A.length (A.map (·.2.1)) • tq A • F)) : iM prog 87 #[.pointer (some ⟨y, 7, none⟩), .int .i64 k] w fun v' w' => ∃ gs, Dp gs = EN A k ∧
  V w0 w' (uQ 1 v' gs.length (gs.map (·.1)) • rQ gs • eF y (.cells (x0 :: x1 :: x2 :: x3 :: x4 :: x5 :: x6 :: pv :: gv :: x9 :: x10 :: x11 :: x12 :: tZ :: x14 :: x15 :: x16 :: x17 :: x18 :: x19 :: x20 :: x21 :: uq :: x23 :: x24 :: x25 :: uz :: x27 :: x28 :: x29 :: x30 :: x31 :: x32 :: uX :: x34 :: D5 :: D6 :: D7 :: x38 :: x39 :: x40 :: x41 :: []).toArray 98 (0, 0)) • nS .i64 pv (A.map (·.1)) • uQ 1 gv A.length (A.map (·.2.1)) • tq A • F) := by
 have hpl : (A.map (·.1)).length = A.length := List.length_map _
 have hcap : (A.length : Int) ≤ 9223372036854775807 := by obtain ⟨_, a, c, _, h2, h3, _⟩ := (H.f3).oD; omega
 refine qI func87 ntmps87 ?_
 refine kQ O (aO (kQ O (bg ?_)))
 refine gq [(0, _), (1, _)] (fun (i : Nat) => [(5, .int .i64 (i : Int))]) (fun (i : Nat) W => (i ≤ A.length ∧ ∀ j, j < i → (A.getD j default).1 ≠ k) ∧ V w0 W (eF y (.cells (x0 :: x1 :: x2 :: x3 :: x4 :: x5 :: x6 :: pv :: gv :: x9 :: x10 :: x11 :: x12 :: tZ :: x14 :: x15 :: x16 :: x17 :: x18 :: x19 :: x20 :: x21 :: uq :: x23 :: x24 :: x25 :: uz :: x27 :: x28 :: x29 :: x30 :: x31 :: x32 :: uX :: x34 :: D5 :: D6 :: D7 :: x38 :: x39 :: x40 :: x41 :: []).toArray 98 (0, 0)) • nS .i64 pv (A.map (·.1)) • uQ 1 gv A.length (A.map (·.2.1)) • tq A • F)) (fun (i : Nat) => A.length - i) (0) rP oO ⟨⟨by omega, fun j hj => by omega⟩, H.f4.f4.f4.f4⟩ ?_
 rintro i w1 ⟨⟨hi, hne⟩, HL⟩
 dsimp only [List.cons_append, List.nil_append]
 refine aO (bY O (mJ O O (bn 0 mY O sizeOf90 O (fB jY O (HL).get.2 O (aW (jJ ((HL.f2).jh) jY O) (aW (fG O O) (jv O (fun h1 => ?_) (fun h1 => ?_))))))))
 ·(try simp only [aF] at h1)
  refine iy (aO (bg (aO ?_)))
  have hil : i < A.length := by omega
  refine aA (mJ O O (bn 0 mY O sizeOf90 O (fB jY O (HL).get.2 O (bT O ?_))))
  obtain ⟨bpv, opv, cpv, epv⟩ := jP.nR ((HL.f2).jh) (by omega)
  cases epv
  refine aW (dD jY aj O O (by omega)) ?_
  refine aW (eG (dn aB O) O (by first | exact jP.sO ((HL.f2).jh) (by omega) | exact jP.EF ((HL.f2).jh) (by omega) | exact jP.Ey ((HL.f2).jh) (by omega))) ?_
  rw [SY hil]
  refine bT O (aW (kP O O) (jv O (fun h2 => ?_) (fun h2 => ?_)))
  ·(try simp only [aF] at h2)
   have hek : (A.getD i default).1 = k := h2
   refine bY O (dO O (bn 1 mY O sizeOf91 O (fB qG O (HL).get.2 O (bT O ?_))))
   obtain ⟨bgv, ogv, cgv, egv⟩ := Rd.nR ((HL.f3).oD) (by omega)
   cases egv
   refine aW (dD qG iH O O (by omega)) ?_
   refine aW (eG (dn bP O) O (by first | exact Rd.sO ((HL.f3).oD) (by omega) | exact Rd.EF ((HL.f3).oD) (by omega) | exact Rd.Ey ((HL.f3).oD) (by omega))) ?_
   rw [Yq hil]
   have hat := aeI hil hne hek
   obtain ⟨xp, xv, xgs, hx⟩ : ∃ xp xv xgs, A.getD i default = (xp, xv, xgs) := ⟨_, _, _, rfl⟩
   rw [hx] at hat ⊢
   dsimp only at hat ⊢
   have Ho2 := HL.f4
   have Hc3 := Ho2.Yp hil hx
   refine ig O (aX (aC (aC (aX (aC (fD results87 O ?_))))))
   exact ⟨xgs, hat.symm, Hc3.f3.f6.f6.f6.f6.f6⟩
  ·(try simp only [aF] at h2)
   have hni : (A.getD i default).1 ≠ k := h2
   refine dS (aP (aZ (aA (bT O (aW (fP O O (by omega)) (iC O (bZ ?_)))))))
   refine dN (i + 1) ?_ ?_ ?_ ?_
   ·exact oO
   ·exact rP
   ·(try dsimp only)
    first | done | exact ⟨⟨by omega, fun j hj => (show j < i ∨ j = i from by omega).elim (hne j) (fun c => c ▸ hni)⟩, HL.f4.f4.f4.f4⟩
   ·(try dsimp only); omega
 ·(try simp only [aF] at h1)
  refine eH (aT (aT (bU (aZ (aO ?_)))))
  obtain rfl : i = A.length := by omega
  refine aA (ig O (fD results87 O ?_))
  exact ⟨[], by rw [abK hne]; rfl, ((HL.f4.f4.f4.f4).Yo none).Vf⟩
theorem Ld {x0 x1 x2 x3 x4 x5 x6 x9 x10 x11 x12 tZ x14 x15 x16 x17 x18 x19 x20 x21 uq x23 x24 x25 uz x27 x28 x29 x30 x31 x32 uX x34 D5 D6 D7 x38 x39 x40 x41 : Value} (H : V w0 w (eF y (.cells (x0 :: x1 :: x2 :: x3 :: x4 :: x5 :: x6 :: pv :: gv :: x9 :: x10 :: x11 :: x12 :: tZ :: x14 :: x15 :: x16 :: x17 :: x18 :: x19 :: x20 :: x21 :: uq :: x23 :: x24 :: x25 :: uz :: x27 :: x28 :: x29 :: x30 :: x31 :: x32 :: uX :: x34 :: D5 :: D6 :: D7 :: x38 :: x39 :: x40 :: x41 :: []).toArray 98 (0, 0)) • nS .i64 pv (A.map (·.1)) • uQ 1 gv A.length (A.map (·.2.1)) • tq A • uQ 1 u gs.length (gs.map (·.1)) • rQ gs • F)) (hA : A.length ≤ 4097) : iM prog 122 #[.pointer (some ⟨y, 7, none⟩), .int .i64 k, u] w fun _ w' => ∃ pv' gv',
  V w0 w' (eF y (.cells (x0 :: x1 :: x2 :: x3 :: x4 :: x5 :: x6 :: pv' :: gv' :: x9 :: x10 :: x11 :: x12 :: tZ :: x14 :: x15 :: x16 :: x17 :: x18 :: x19 :: x20 :: x21 :: uq :: x23 :: x24 :: x25 :: uz :: x27 :: x28 :: x29 :: x30 :: x31 :: x32 :: uX :: x34 :: D5 :: D6 :: D7 :: x38 :: x39 :: x40 :: x41 :: []).toArray 98 (0, 0)) • nS .i64 pv' ((AQ A k u gs).map (·.1)) • uQ 1 gv' (AQ A k u gs).length ((AQ A k u gs).map (·.2.1)) • tq (AQ A k u gs) • F) := by
 have hpl : (A.map (·.1)).length = A.length := List.length_map _
 have hfl : ∀ i, ((A.take i).filter fun x => x.1 != k).length ≤ A.length := fun i => Nat.le_trans (List.length_filter_le _ _) (by rw [List.length_take]; omega)
 have agd : ∀ i, (((A.take i).filter fun x => x.1 != k).map (·.1)).length = ((A.take i).filter fun x => x.1 != k).length := fun i => List.length_map _
 refine NC func122 ntmps122 ?_
 refine kQ O (kQ O (aO (kQ O (bg ?_))))
 refine gq [(0, _), (1, _), (2, _)] (fun (⟨i, u1, u2⟩ : Nat × Value × Value) => [(6, u1), (7, u2), (8, .int .i64 (i : Int))]) (fun (⟨i, u1, u2⟩ : Nat × Value × Value) W => i ≤ A.length ∧ V w0 W (jR 3 .i64 u1 (((A.take i).filter fun x => x.1 != k).map (·.1)) • Row 163 1 u2 ((A.take i).filter fun x => x.1 != k).length (((A.take i).filter fun x => x.1 != k).map (·.2.1)) • eF y (.cells (x0 :: x1 :: x2 :: x3 :: x4 :: x5 :: x6 :: pv :: gv :: x9 :: x10 :: x11 :: x12 :: tZ :: x14 :: x15 :: x16 :: x17 :: x18 :: x19 :: x20 :: x21 :: uq :: x23 :: x24 :: x25 :: uz :: x27 :: x28 :: x29 :: x30 :: x31 :: x32 :: uX :: x34 :: D5 :: D6 :: D7 :: x38 :: x39 :: x40 :: x41 :: []).toArray 98 (0, 0)) • nS .i64 pv (A.map (·.1)) • uQ 1 gv A.length (A.map (·.2.1)) • tq A • uQ 1 u gs.length (gs.map (·.1)) • rQ gs • F)) (fun (⟨i, u1, u2⟩ : Nat × Value × Value) => A.length - i) ((0, .slice none 0 0, .slice none 0 0)) Du Du ⟨by omega, ((H.f6.f6.f6.f6.f6.f6).gG (e := 163) (sz := 1) none).gG none⟩ ?_
 rintro ⟨i, u1, u2⟩ w1 ⟨hi, HL⟩
 dsimp only [List.cons_append, List.nil_append]
 refine aO (bY O (mJ O O (bn 0 mY O sizeOf90 O (fB jY O (HL.f3).get.2 O (aW (jJ ((HL.f4).jh) jY O) (aW (fG O O) (jv O (fun h1 => ?_) (fun h1 => ?_))))))))
 ·(try simp only [aF] at h1)
  refine iy (aO (bg (aO ?_)))
  have hil : i < A.length := by omega
  have hfi := hfl i
  have age := agd i
  obtain ⟨xp, xv, xgs, hx⟩ : ∃ xp xv xgs, A.getD i default = (xp, xv, xgs) := ⟨_, _, _, rfl⟩
  refine aA (mJ O O (bn 0 mY O sizeOf90 O (fB jY O (HL.f3).get.2 O (bT O ?_))))
  obtain ⟨bpv, opv, cpv, epv⟩ := jP.nR ((HL.f4).jh) (by omega)
  cases epv
  refine aW (dD jY aj O O (by omega)) ?_
  refine aW (eG (dn aB O) O (by first | exact jP.sO ((HL.f4).jh) (by omega) | exact jP.EF ((HL.f4).jh) (by omega) | exact jP.Ey ((HL.f4).jh) (by omega))) ?_
  rw [SY hil, hx]
  dsimp only
  refine bT O (aW (gy O O) (jv O (fun h2 => ?_) (fun h2 => ?_)))
  ·(try simp only [aF] at h2)
   have hne : ¬ xp = k := h2
   refine bY O (mJ O O (bn 0 mY O sizeOf90 O (fB jY O (HL.f3).get.2 O (bT O (aW (dD jY aj O O (by omega)) ?_)))))
   refine aW (eG (dn aB O) O (by first | exact jP.sO ((HL.f4).jh) (by omega) | exact jP.EF ((HL.f4).jh) (by omega) | exact jP.Ey ((HL.f4).jh) (by omega))) ?_
   rw [SY hil, hx]
   dsimp only
   refine iY (iU (k := .i64) (l := [_]) HL jY aj zeroValue3 O O O (by decide)) ?_
   rintro l2 w2 H2
   refine iY (dL H2.f2 ((H2).aN) jY agf O O (by first | omega | (simp only [List.length_append, List.length_nil, List.length_cons]; omega) | (simp; omega)) (by first | omega | (simp only [List.length_append, List.length_nil, List.length_cons]; omega) | (simp; omega))) ?_
   rintro l3 w3 H3
   try simp only [List.nil_append] at H3
   refine iP O (aA (jy O O (dO O (bn 1 mY O sizeOf91 O (fB qG O (H3.f4).get.2 O (bT O ?_))))))
   obtain ⟨bgv, ogv, cgv, egv⟩ := Rd.nR ((H3.f6).oD) (by omega)
   cases egv
   refine aW (dD qG iH O O (by omega)) ?_
   refine aW (eG (dn bP O) O (by first | exact Rd.sO ((H3.f6).oD) (by omega) | exact Rd.EF ((H3.f6).oD) (by omega) | exact Rd.Ey ((H3.f6).oD) (by omega))) ?_
   rw [Yq hil, hx]
   dsimp only
   have PD := H3.f7
   have MK := PD.Yp hil hx
   refine iY (kU (vs := [_]) MK qG iH zeroValue163 O O O (by decide) (aY (by first | rfl | exact Rd.one ((MK).oD)) bK)) ?_
   rintro l6 w6 H6
   refine iY (eX H6.f7 qG abO O O O ((H6).aN) (aY (by first | rfl | exact Rd.one ((H6.f2).oD)) bK) (by omega) (by omega)) ?_
   rintro l7 w7 H7
   have Hd8 := H7.f2.right
   refine iC O (bZ (aP (aZ (aA (bT O (aW (fP O O (by omega)) (iC O (bZ ?_))))))))
   refine dN ((i + 1, l3, l7)) ?_ ?_ ?_ ?_
   ·exact Du
   ·exact Du
   ·(try dsimp only)
    first | done | exact ⟨by omega, by rw [QZ hil, hx]; dsimp only; first | (rw [if_pos (by simpa using hne)]; simp only [List.map_append, List.length_append]; exact Hd8.f2.right.f2.right.f4.right.f8.f8.f4.f8.f8.f8.f7.f8) | (rw [if_neg (by simpa using heq), List.append_nil]; exact Hd8.f2.right.f2.right.f4.right.f8.f8.f4.f8.f8.f8.f7.f8)⟩
   ·(try dsimp only); omega
  ·(try simp only [aF] at h2)
   have heq : xp = k := by have h9 := h2; omega
   refine dS (aP (aZ (aA (bT O (aW (fP O O (by omega)) (iC O (bZ ?_)))))))
   refine dN ((i + 1, u1, u2)) ?_ ?_ ?_ ?_
   ·exact Du
   ·exact Du
   ·(try dsimp only)
    first | done | exact ⟨by omega, by rw [QZ hil, hx]; dsimp only; first | (rw [if_pos (by simpa using hne)]; simp only [List.map_append, List.length_append]; exact HL.f8.f8.f8.f8.f8.f8.f8.f8) | (rw [if_neg (by simpa using heq), List.append_nil]; exact HL.f8.f8.f8.f8.f8.f8.f8.f8)⟩
   ·(try dsimp only); omega
 ·(try simp only [aF] at h1)
  refine eH (aT (aT (bU (aZ ?_))))
  obtain rfl : i = A.length := by omega
  have HX := HL
  rw [List.take_length] at HX
  have hfi := hfl A.length
  have age := agd A.length
  rw [List.take_length] at hfi age
  refine aA (jy O O (jy O O (iY (iU (k := .i64) (l := [_]) HX jY aj zeroValue3 O O O (by decide)) ?_)))
  rintro l9 w9 H9
  refine iY (dL H9.f2 ((H9).aN) jY agf O O (by first | omega | (simp only [List.length_append, List.length_nil, List.length_cons]; omega) | (simp; omega)) (by first | omega | (simp only [List.length_append, List.length_nil, List.length_cons]; omega) | (simp; omega))) ?_
  rintro l10 w10 sF
  try simp only [List.nil_append] at sF
  refine jy O O (iY (kU (vs := [_]) sF qG iH zeroValue163 O O O (by decide) (aY (by first | rfl | exact Rd.one ((sF.f8).oD)) bK)) ?_)
  rintro l11 Iq sG
  refine iY (eX sG.f4 qG abO O O O ((sG).aN) (aY (by first | rfl | exact Rd.one ((sG.f9).oD)) bK) (by omega) (by omega)) ?_
  rintro l12 w12 tN
  have agh := tN.f2.right
  refine dO O (bn 0 mY O sizeOf90 O (aI (eY 7 (l' := [_, _, _, _, _, _, _, _, _, _, _, _, _, _, _, _, _, _, _, _, _, _, _, _, _, _, _, _, _, _, _, _, _, _, _, _, _, _, _, _, _, _]) agh.f4 sizeOf90 O O (by first | rfl | exact Rd.one ((agh.f2).aN)) O O) ?_))
  rintro _ TL Dh
  refine dO O (bn 1 mY O sizeOf91 O (aI (eY 8 (l' := [_, _, _, _, _, _, _, _, _, _, _, _, _, _, _, _, _, _, _, _, _, _, _, _, _, _, _, _, _, _, _, _, _, _, _, _, _, _, _, _, _, _]) Dh sizeOf91 O O (by first | rfl | exact Rd.one ((Dh.f2).aN)) O O) ?_))
  rintro _ Ws CG
  refine bZ (kY (.inr O) results122 ?_)
  have hs1 : (AQ A k u gs).map (·.1) = (A.filter fun x => x.1 != k).map (·.1) ++ [k] := by unfold AQ; rw [List.map_append]; rfl
  have hs2 : (AQ A k u gs).map (·.2.1) = (A.filter fun x => x.1 != k).map (·.2.1) ++ [u] := by unfold AQ; rw [List.map_append]; rfl
  have hs3 : (AQ A k u gs).length = (A.filter fun x => x.1 != k).length + 1 := by unfold AQ; rw [List.length_append]; rfl
  have HQ := (CG.f4.right.f4.right.f4.right.f2.f3.f6.f6.f6).abM (p := k) |>.f2.kK.f3.Kq.f4.f3.f2
  exact ⟨_, _, by rw [hs1, hs2, hs3]; exact HQ⟩
theorem Le {x0 x1 x2 x3 x4 x5 x6 x9 x10 x11 x12 tZ x14 x15 x16 x17 x18 x19 x20 x21 uq x23 x24 x25 uz x27 x28 x29 x30 x31 x32 uX x34 D5 D6 D7 x38 x39 x40 x41 : Value} (H : V w0 w (eF y (.cells (x0 :: x1 :: x2 :: x3 :: x4 :: x5 :: x6 :: pv :: gv :: x9 :: x10 :: x11 :: x12 :: tZ :: x14 :: x15 :: x16 :: x17 :: x18 :: x19 :: x20 :: x21 :: uq :: x23 :: x24 :: x25 :: uz :: x27 :: x28 :: x29 :: x30 :: x31 :: x32 :: uX :: x34 :: D5 :: D6 :: D7 :: x38 :: x39 :: x40 :: x41 :: []).toArray 98 (0, 0)) • nS .i64 pv (A.map (·.1)) • uQ 1 gv A.length (A.map (·.2.1)) • tq A • F)) (hA : A.length ≤ 4097) : iM prog 122 #[.pointer (some ⟨y, 7, none⟩), .int .i64 k, .slice none 0 0] w fun _ w' => ∃ pv' gv',
    V w0 w' (eF y (.cells (x0 :: x1 :: x2 :: x3 :: x4 :: x5 :: x6 :: pv' :: gv' :: x9 :: x10 :: x11 :: x12 :: tZ :: x14 :: x15 :: x16 :: x17 :: x18 :: x19 :: x20 :: x21 :: uq :: x23 :: x24 :: x25 :: uz :: x27 :: x28 :: x29 :: x30 :: x31 :: x32 :: uX :: x34 :: D5 :: D6 :: D7 :: x38 :: x39 :: x40 :: x41 :: []).toArray 98 (0, 0)) • nS .i64 pv' ((AQ A k (.slice none 0 0) []).map (·.1)) • uQ 1 gv' (AQ A k (.slice none 0 0) []).length ((AQ A k (.slice none 0 0) []).map (·.2.1)) • tq (AQ A k (.slice none 0 0) []) • F) :=
  Ld (gs := []) (u := .slice none 0 0) (((H.Yo none).Vf).of_eq (by ac_rfl)) hA
end
theorem Vp {w0 w : World} {F : HP} {p : Nat} {L : List Int} {pt mk : Int} (H : V w0 w (kJ p L pt mk • F)) : iM prog 134 #[.pointer (some ⟨p, 0, none⟩)] w fun v w' => ∃ u, v = .agg (qX u pt mk) ∧ V w0 w' (jR 21 .i32 u L • kJ p L pt mk • F) := by
  obtain ⟨a, c, g1, g2, g3, g4, g5, HB⟩ := H.ref
  refine iM.mono (Vk HB g1) fun v w' h => ?_
  obtain ⟨u, h1, h2⟩ := h
  exact ⟨u, h1, (V.qV g1 g2 g3 h2.f2.f3.f2).f2⟩
section
variable {w0 w : World} {F : HP} {y : Nat} {s : dw} {x : Int} {b : Bool}
theorem S9 (H : V w0 w (ku y s • F)) : iM prog 34 #[.pointer (some ⟨y, 0, none⟩), .int .i64 x] w fun v w' => v = .int .i64 (s.Gw x) ∧ V w0 w' (ku y (s.yA x) • F) := by
 refine qI func34 ntmps34 ?_
 refine kQ O (aO (aO ?_))
 obtain ⟨Js, yF, yG, yH, yI, AU, AV, Kv, AX, BR, AY, AZ, Ba, yJ, yK, yL, yM, yN, yO, yP, yQ, yR, yS, yT, yU, jO, qW, mF⟩ := (H).Ce
 refine aA (mJ O O (bn 32 aJ O aQ O (fB cZ O (mF).get.2 O (aW (mG O) (jv O (fun h1 => ?_) (fun h1 => ?_))))))
 ·(try simp only [aF] at h1)
  have hin : s.inn = false := by simpa using h1
  refine mP O (aC (fD results34 O ?_))
  have PN := mF.f12.f12.f12.f12.f12.f12.f12.f12.f12.f12.f12.f12
  have LP := V.mV (s := s) jO PN
  exact ⟨by simp [dw.Gw, dw.yA, hin], by rw [show s.yA x = s from by simp [dw.Gw, dw.yA, hin]]; exact LP⟩
 ·(try simp only [aF] at h1)
  have hin : s.inn = true := by simpa using h1
  refine iy (bY O (dO O (bn 1 aJ O dH O (bn 0 bI O pI O (fB qH O (mF).get.2 O (bT O (fE O func78 (SX mF.f2) ?_)))))))
  rintro _ w5 ⟨rfl, H5⟩
  refine ig O (fD results34 O ?_)
  exact ⟨by simp [dw.Gw, hin], by rw [show s.yA x = s.nC s.c.L (YW s.c.L.length s.c.pt x) s.c.mark from by simp [dw.yA, hin]]; exact V.mV (s := s.nC s.c.L (YW s.c.L.length s.c.pt x) s.c.mark) (jO.nC _ _ _) H5.f12.f12.f12.f12.f12.f12.f12.f12.f12.f12.f11.f12⟩
end
end Go.Proofs.YtgofgnlkpeghcaaGreatDoor
end
section
namespace Go.Proofs.YtgofgnlkpeghcaaGreatDoor
open Go.RowKit
section
variable {w0 w : World} {F : HP} {e h : Nat} {hl : List oH} {base most : Int}
end
section
variable {w0 w : World} {F : HP} {l : List oH} {v : Value}
end
end Go.Proofs.YtgofgnlkpeghcaaGreatDoor
end
section
namespace Go.Proofs.YtgofgnlkpeghcaaGreatDoor
open Go.RowKit
open _root_.Go.Proofs.Tryz
section
variable {w0 w : World} {F : HP} {p y h : Nat} {L : List Int} {pt mk n : Int} {E : List (List Int)} {place : Nat} {s : dw} {l : List Int} {v wv nv : Value} {m : Nat} {xs ys : List Value}
theorem Tc (H : V w0 w (kJ p L pt mk • F)) : iM prog 119 #[.pointer (some ⟨p, 0, none⟩)] w fun v w' => ∃ q, v = .pointer (some ⟨q, 0, none⟩) ∧ V w0 w' (kJ q L pt mk • kJ p L pt mk • F) := by
 refine iQ func119 ntmps119 ?_
 refine kQ O (aO ?_)
 obtain ⟨ajp, ajq, agi, agj, agk, ajr, ajs, ahR⟩ := (H).ref
 refine aA (sS O ?_)
 have J5 := ahR.drew
 have kH := V.kp (J5.f2.f2)
 refine uU [4, 9, 13] kH O (gQ 0 O kH O (gQ 1 O kH O (jQ 2 O kH O (fQ 3 O kH 0 bC O bF O (iO 4 O kH (fun W hW => jT ay O ((Kp.h hW)).get.2 O) (gQ 6 O kH O (jQ 7 O kH O (fQ 8 O kH 1 bC O aj O (iO 9 O kH (fun W hW => jT aB O ((Kp.h hW)).get.2 O) (gQ 10 O kH O (jQ 11 O kH O (fQ 12 O kH 2 bC O aj O (iO 13 O kH (fun W hW => jT aB O ((Kp.h hW)).get.2 O) (lU 5 O (dL (l := []) (J5.gG none) ((J5.f2).aN) ay KT O O (by first | omega | (simp only [List.length_append, List.length_nil, List.length_cons]; omega) | (simp; omega)) (by first | omega | (simp only [List.length_append, List.length_nil, List.length_cons]; omega) | (simp; omega))) ?_))))))))))))))
 rintro l2 w2 H2
 try simp only [List.nil_append] at H2
 have zT := V.kp (H2.f3.f3.f3)
 refine dZ zT (fun W hW => (Kp.h hW).right.f2.f2) ?_
 refine iL 14 O zT (fun _ => fA (zl := [.slice none 0 0, .int .i64 0, .int .i64 0]) (pl := [(0, 1), (1, 1), (2, 1)]) [_, _, _] bC zeroValue150 O (fun w => by kernel_rfl) O (.one (Rd.one ((H2).aN)) (.on (.on .nil))) O) ?_
 refine lU 15 O (jo (l := [_, _, _]) H2 O O) ?_
 rintro _ w3 ⟨b3, rfl, H3⟩
 have nT := V.kp (H3.f4.f4.f4.f4)
 refine fH nT (by kernel_rfl) ?_
 refine iL 16 O nT (fun _ => fU O) (qj (aZ (mZ (fD results119 O ?_))))
 have Ho5 := H3.f4.f4
 have Hc6 := V.qV agi agj agk Ho5
 exact ⟨_, O, V.qV agi agj agk Hc6.f3.f3⟩
theorem FD (H : V w0 w (mD p E place • F)) (hE : E.length ≤ 60 ∧ (place < E.length ∨ place = 0) ∧ ∀ e ∈ E, e.length ≤ 1024) : iM prog 120 #[.pointer (some ⟨p, 0, none⟩)] w fun v w' => ∃ q, v = .pointer (some ⟨q, 0, none⟩) ∧ V w0 w' (mD q E place • mD p E place • F) := by
 obtain ⟨u, HR⟩ := H.adF
 obtain ⟨us, HR⟩ := HR.swap.ll
 obtain ⟨au, cu, rfl, -⟩ := (HR.aN).form
 have hE1 : E.length ≤ 60 := hE.1
 have hE2 : ∀ k, (E.getD k []).length ≤ 1024 := abg hE.2.2
 refine iQ func120 ntmps120 ?_
 refine kQ O (kQ O (aO (kQ O (bg ?_))))
 refine gq [(0, _)] (fun (⟨k, z⟩ : Nat × Value) => [(3, z), (4, .int .i64 (k : Int))]) (fun (⟨k, z⟩ : Nat × Value) W => k ≤ E.length ∧ ∃ zs, V w0 W (Row 23 1 z k zs • o7 .i32 zs (E.take k) • Row 23 1 (.slice au E.length cu) E.length us • o7 .i32 us E • eF p (.cells #[.slice au E.length cu, .int .i64 place] 138 (0, 0)) • F)) (fun (⟨k, z⟩ : Nat × Value) => E.length - k) ((0, .slice none 0 0)) oO rP ⟨by omega, [], (HR.f3.f3.f3).EX.gG none⟩ ?_
 rintro ⟨k, z⟩ w1 ⟨hk, zs, HL⟩
 dsimp only [List.cons_append, List.nil_append]
 obtain ⟨az, cz, rfl, -⟩ := (HL.aN).form
 refine aO (bY O (mJ O O (bn 0 nK O sizeOf22 O (fB bH O (HL.f5).get.2 O (aW (fV ((HL.f3).aN) bH O) (aW (fG O O) (jv O (fun h1 => ?_) (fun h1 => ?_))))))))
 ·(try simp only [aF] at h1)
  refine iy (aO (bg ?_))
  have hkl : k < E.length := by omega
  have hek := hE2 k
  refine aA (jy O O (dO O (bn 0 nK O sizeOf22 O (fB bH O (HL.f5).get.2 O (bT O ?_)))))
  obtain ⟨bu, ou, cu, eu⟩ := Rd.nR ((HL.f3).aN) (by omega)
  cases eu
  refine aW (dD bH bF O O (by omega)) ?_
  refine aW (eG (dn ay O) O (by first | exact Rd.sO ((HL.f3).aN) (by omega) | exact Rd.EF ((HL.f3).aN) (by omega) | exact Rd.Ey ((HL.f3).aN) (by omega))) ?_
  refine GU (fun aiH aeJ => ?_)
  refine fE O func152 (Zq HL (fun W HW => (by rw [aeJ]; exact (HW.f4).FU (by omega))) (by omega)) ?_
  rintro u3 w3 H3
  have Hf4 := H3.kK
  refine iY (kU (vs := [_]) Hf4 bH bF zeroValue23 O O O (by decide) (aY (by first | rfl | exact Rd.one ((Hf4).jh)) bK)) ?_
  rintro l5 w5 H5
  refine iY (eX H5.f3 bH Va O O O ((H5).aN) (aY (by first | rfl | exact Rd.one ((H5.f2).jh)) bK) (by omega) (by omega)) ?_
  rintro l6 w6 H6
  have LQ := H6.f2.right
  refine iC O (bZ (aP (aZ (aA (bT O (aW (fP O O (by omega)) (iC O (bZ ?_))))))))
  have HS := (LQ.f6.f6.f6.f4.f5.f6).FV.f2
  refine dN ((k + 1, l6)) ?_ ?_ ?_ ?_
  ·exact rP
  ·exact oO
  ·(try dsimp only)
   first | done | exact ⟨by omega, _, by rw [FB (d := []) hkl]; exact HS⟩
  ·(try dsimp only); omega
 ·(try simp only [aF] at h1)
  refine eH (aT (aT (bU (aZ (bY O (mJ O O (bn 1 nK O aj O (fB aB O (HL.f5).get.2 O ?_))))))))
  refine aW (fA (zl := [.slice none 0 0, .int .i64 0]) (pl := [(0, 1), (1, 1)]) [_, _] nK zeroValue138 O (fun w => by kernel_rfl) O (.one (Rd.one ((HL).aN)) (.on .nil)) O) ?_
  refine iY (jo (l := [_, _]) HL O O) ?_
  rintro _ w8 ⟨b8, rfl, H8⟩
  refine ig O (fD results120 O ?_)
  have HL2 := V.aar (H8.f6.f6.f6.f4.f6.f6)
  rw [List.take_of_length_le (by omega)] at HL2
  have HL3 := V.OZ HL2.f2
  exact ⟨_, O, (V.OZ (V.aar HL3.f3.f3).f3).f2⟩
theorem O5 {x : Int} (H : V w0 w (eF p (.cells #[wv, nv, .int .i64 x] 89 (0, 0)) • Row 9 1 nv m ys • uQ 1 wv m xs • F)) (hy : ∀ u ∈ ys, u.oneCell' = true) (hm : m ≤ 4097) : iM prog 121 #[.pointer (some ⟨p, 0, none⟩)] w fun v w' => ∃ q nv', v = .pointer (some ⟨q, 0, none⟩) ∧
  V w0 w' (eF q (.cells #[wv, nv', .int .i64 x] 89 (0, 0)) • Row 9 1 nv' m ys • eF p (.cells #[wv, nv, .int .i64 x] 89 (0, 0)) • Row 9 1 nv m ys • uQ 1 wv m xs • F) := by
 refine iQ func121 ntmps121 ?_
 refine kQ O (aO ?_)
 have OB := H.drew
 have lS := V.kp (OB.f3.f3.f3)
 refine uU [3, 7, 12] lS O (gQ 0 O lS O (jQ 1 O lS O (fQ 2 O lS 0 dB O jE O (iO 3 O lS (fun W hW => jT dJ O ((Kp.h hW)).get.2 O) (gQ 4 O lS O (jQ 5 O lS O (fQ 6 O lS 1 dB O jE O (iO 7 O lS (fun W hW => jT dJ O ((Kp.h hW)).get.2 O) (gQ 9 O lS O (jQ 10 O lS O (fQ 11 O lS 2 dB O aj O (iO 12 O lS (fun W hW => jT aB O ((Kp.h hW)).get.2 O) (lU 8 O (eX (OB.gG none) dJ abJ O O O ((OB.f2).aN) (by assumption) (by omega) (by omega)) ?_)))))))))))))
 rintro l1 w1 H1
 have Xj := V.kp (H1.f4.f4.f4.f4)
 refine dZ Xj (fun W hW => (Kp.h hW).right.f3.f3.f3) ?_
 refine iL 13 O Xj (fun _ => fA (zl := [.slice none 0 0, .slice none 0 0, .int .i64 0]) (pl := [(0, 1), (1, 1), (2, 1)]) [_, _, _] dB zeroValue89 O (fun w => by kernel_rfl) O (.one (Rd.one ((H1.f4).oD)) (.one (Rd.one ((H1).aN)) (.on .nil))) O) ?_
 refine lU 14 O (jo (l := [_, _, _]) H1 O O) ?_
 rintro _ w2 ⟨b2, rfl, H2⟩
 have zT := V.kp (H2.f5.f5.f5.f5.f5)
 refine fH zT (by kernel_rfl) ?_
 refine iL 15 O zT (fun _ => fU O) (qj (aZ (mZ (fD results121 O ?_))))
 have HQ := H2.f5.f5.f5.f5.f5
 simp only [Nat.zero_add, List.nil_append] at HQ
 exact ⟨_, _, O, HQ⟩
theorem Vq {pb pk : Nat} {pv gv : Value} {x md rs : Int} {t : ByteArray} {ov rn : Bool} (H : V w0 w (kJ pb L pt mk • mD pk E place • Row 9 1 nv m ys • uQ 1 wv m xs • F)) (hE : E.length ≤ 60 ∧ (place < E.length ∨ place = 0) ∧ ∀ e ∈ E, e.length ≤ 1024) (hy : ∀ u ∈ ys, u.oneCell' = true) (hm : m ≤ 4097) (o1 : pv.oneCell' = true) (o2 : gv.oneCell' = true) :
  iM prog 72 #[.agg #[.pointer (some ⟨pb, 0, none⟩), .pointer (some ⟨pk, 0, none⟩), wv, nv, .int .i64 x, .string t, pv, gv, .int .i64 md, .bool ov, .int .i64 rs, .bool rn]] w fun v w' => ∃ qb qk nv',
   v = .agg #[.pointer (some ⟨qb, 0, none⟩), .pointer (some ⟨qk, 0, none⟩), wv, nv', .int .i64 x, .string t, pv, gv, .int .i64 md, .bool ov, .int .i64 rs, .bool rn] ∧
   V w0 w' (kJ qb L pt mk • mD qk E place • Row 9 1 nv' m ys • kJ pb L pt mk • mD pk E place • Row 9 1 nv m ys • uQ 1 wv m xs • F) := by
 refine iQ func72 ntmps72 ?_
 refine jw (iY (jo (l := [_, _, _, _, _, _, _, _, _, _, _, _]) H O O) ?_)
 rintro _ w1 ⟨b1, rfl, H1⟩
 refine iY (fK (l := [_, _, _, _, _, _, _, _, _, _, _, _]) H1 zeroValue95 O) ?_
 rintro _ w2 ⟨b2, rfl, H2⟩
 refine YK (bn 0 bI O pI O (fB qH O (H2.f2).get.2 O (fE O func119 (Tc H2.f3) ?_)))
 rintro _ w3 ⟨q3, rfl, H3⟩
 refine bn 0 bI O pI O (aI (eY 0 (l' := [_, _, _, _, _, _, _, _, _, _, _, _]) H3.f4 pI O O (by first | rfl | assumption) O O) ?_)
 rintro _ w4 H4
 refine YK (bn 1 bI O sizeOf86 O (fB underlying86 O (H4).get.2 O (fE O func120 (FD H4.f5 (by assumption)) ?_)))
 rintro _ w5 ⟨q5, rfl, H5⟩
 refine bn 1 bI O sizeOf86 O (aI (eY 1 (l' := [_, _, _, _, _, _, _, _, _, _, _, _]) H5.f3 sizeOf86 O O (by first | rfl | assumption) O O) ?_)
 rintro _ w6 H6
 refine YK (bn 2 bI O lH O (aW (sJ 2 (xs := [_, _, _]) dB O lH O O (H6).get.2 O) (iY (fK (l := [_, _, _]) H6 zeroValue89 O) ?_)))
 rintro _ w7 ⟨b7, rfl, H7⟩
 refine aI (dG 0 (l' := [_, _, _]) (us := [_, _, _]) H7 lH O O O (aY (by first | rfl | exact Rd.one ((H7.f9).oD)) (aY (by first | rfl | exact Rd.one ((H7.f8).aN)) (aG bK))) O O) ?_
 rintro _ w8 H8
 refine YK (fE O func121 (O5 H8.f9.f9.f3 (by assumption) (by omega)) ?_)
 rintro _ w9 ⟨q9, nv9, rfl, H9⟩
 refine dO O (aW (dI dB O lH O O (H9).get.2) (bn 2 bI O lH O (aI (dG 2 (l' := [_, _, _, _, _, _, _, _, _, _, _, _]) (us := [_, _, _]) H9.f6 lH O O O (aY (by first | rfl | exact Rd.one ((H9.f5).oD)) (aY (by first | rfl | exact Rd.one ((H9.f2).aN)) (aG bK))) O O) ?_)))
 rintro _ w10 sF
 refine YK (aW (dI bI O dH O O (sF).get.2) (aI (dG 0 (l' := [_, _, _, _, _, _, _, _, _, _, _, _]) (us := [_, _, _, _, _, _, _, _, _, _, _, _]) sF.f11 dH O O O (aG (aG (aY (by first | rfl | exact Rd.one ((sF.f6).oD)) (aY (by first | rfl | exact Rd.one ((sF.f3).aN)) (aG (aG (aG (aG (aG (aG (aG (aG bK)))))))))))) O O) ?_))
 rintro _ Iq sG
 refine zkc ?_
 refine rW (.inl O) (Lr results72 O bI O (by rw [agl]; rfl) (sG).get.2) ?_
 exact ⟨_, _, _, O, sG.right.right.right.f2.right.f3.f3.f5.f7.f5.f6.f7⟩
theorem V.ac2 {k : IntKind} (H : V w0 w (nS k v l • F)) : V w0 w (nS k v l • nS k v l • F) := H.uD
theorem V.ac3 {A : List LE} (H : V w0 w (tq A • F)) : V w0 w (tq A • tq A • F) := H.uD
theorem V.Yr {h pb pk : Nat} {wv nv pv gv : Value} {A : List LE} {yf yt : Int} {ch : Bool} {u0 u1 u2 u3 u4 u5 u6 u7 u8 u9 ua ub : Value} (h1 : iw s [] A yf yt) (H : V w0 w (eF y (.cells (.pointer (some ⟨h, 0, none⟩) :: .pointer (some ⟨pb, 0, none⟩) :: .pointer (some ⟨pk, 0, none⟩) :: wv :: nv :: .int .i64 s.c.place :: .string (dR s.hl s.c.tx s.c.place) :: pv :: gv :: .int .i64 s.c.mode :: .bool s.c.over :: .int .i64 s.c.res :: .bool s.c.run :: u0 :: u1 :: u2 :: u3 :: u4 :: u5 :: u6 :: u7 :: u8 :: u9 :: ua :: ub :: .bool s.given :: .bool s.minus :: .int .i64 s.arg :: .int .i64 s.zV :: .int .i64 s.UA :: .int .i64 s.UC :: .int .i64 s.sK :: .bool s.inn :: .int .i64 s.cls :: .int .i64 yf :: .int .i64 yt :: .bool s.argues :: .bool s.nV :: .bool s.lY :: .slice none 0 0 :: .bool s.whole :: .bool ch :: []).toArray 98 (0, 0)) • kJ pb s.c.L s.c.pt s.c.mark • mD pk s.c.E s.c.at_ • uQ 1 wv (s.hl.length + 1) (strs (nP s.hl)) • Row 9 1 nv (s.hl.length + 1) (strs (mW s.hl s.c.tx)) • nS .i64 pv (A.map (·.1)) • uQ 1 gv A.length (A.map (·.2.1)) • tq A • iW h s.hl s.base s.most • DV s.inn s.hl s.was [u0, u1, u2, u3, u4, u5, u6, u7, u8, u9, ua, ub] • F)) : V w0 w (ku y s • F) := by
  refine V.mV (y := y) (h := h) (pb := pb) (pk := pk) (wv := wv) (nv := nv) (pv := pv) (gv := gv) (ch := ch) (u0 := u0) (u1 := u1) (u2 := u2) (u3 := u3) (u4 := u4) (u5 := u5) (u6 := u6) (u7 := u7) (u8 := u8) (u9 := u9) (ua := ua) (ub := ub) (nw := .slice none 0 0) (es := []) h1 ?_
  rw [← h1.says]
  exact (H.wF none).of_eq (by unfold MJ; simp only [List.length_nil, List.flatMap_nil, List.map_nil]; ac_rfl)
theorem V.Yt {h pb pk : Nat} {wv nv pv gv : Value} {A : List LE} {yf yt : Int} {ch : Bool} {u0 u1 u2 u3 u4 u5 u6 u7 u8 u9 ua ub : Value} (h1 : iw s [] A yf yt) (hi : s.inn = false) (H : V w0 w (eF y (.cells (.pointer (some ⟨h, 0, none⟩) :: .pointer (some ⟨pb, 0, none⟩) :: .pointer (some ⟨pk, 0, none⟩) :: wv :: nv :: .int .i64 s.c.place :: .string (dR s.hl s.c.tx s.c.place) :: pv :: gv :: .int .i64 s.c.mode :: .bool s.c.over :: .int .i64 s.c.res :: .bool s.c.run :: u0 :: u1 :: u2 :: u3 :: u4 :: u5 :: u6 :: u7 :: u8 :: u9 :: ua :: ub :: .bool s.given :: .bool s.minus :: .int .i64 s.arg :: .int .i64 s.zV :: .int .i64 s.UA :: .int .i64 s.UC :: .int .i64 s.sK :: .bool false :: .int .i64 s.cls :: .int .i64 yf :: .int .i64 yt :: .bool s.argues :: .bool s.nV :: .bool s.lY :: .slice none 0 0 :: .bool s.whole :: .bool ch :: []).toArray 98 (0, 0)) • kJ pb s.c.L s.c.pt s.c.mark • mD pk s.c.E s.c.at_ • uQ 1 wv (s.hl.length + 1) (strs (nP s.hl)) • Row 9 1 nv (s.hl.length + 1) (strs (mW s.hl s.c.tx)) • nS .i64 pv (A.map (·.1)) • uQ 1 gv A.length (A.map (·.2.1)) • tq A • iW h s.hl s.base s.most • F)) (hu : ([u0, u1, u2, u3, u4, u5, u6, u7, u8, u9, ua, ub].all fun x => x.oneCell') = true) : V w0 w (ku y s • F) := by
  refine V.Yr (y := y) (h := h) (pb := pb) (pk := pk) (wv := wv) (nv := nv) (pv := pv) (gv := gv) (ch := ch) (u0 := u0) (u1 := u1) (u2 := u2) (u3 := u3) (u4 := u4) (u5 := u5) (u6 := u6) (u7 := u7) (u8 := u8) (u9 := u9) (ua := ua) (ub := ub) h1 ?_
  rw [hi]
  exact (H.Jp (hl := s.hl) (c := s.was) (u := [u0, u1, u2, u3, u4, u5, u6, u7, u8, u9, ua, ub]) hu).of_eq (by ac_rfl)
theorem Dq (H : V w0 w (ku y s • F)) : iM prog 30 #[.pointer (some ⟨y, 0, none⟩)] w fun v w' => v = .int .i64 s.yx ∧ V w0 w' (ku y s.lg • F) := by
 refine iQ func30 ntmps30 ?_
 refine kQ O (aO (aO ?_))
 obtain ⟨Js, yF, yG, yH, yI, AU, AV, Kv, AX, BR, AY, AZ, Ba, yJ, yK, yL, yM, yN, yO, yP, yQ, yR, yS, yT, yU, jO, qW, mF⟩ := (H).Ce
 have hE9 := jO.rx.1.2
 have hy9 := @Ko (mW s.hl s.c.tx)
 obtain ⟨hv9, hk9, _⟩ := (mF.f9).CV
 have hhl := hk9.1
 have o1 := (mF.f6).jh.one
 have o2 := (mF.f7).oD.one
 refine aA (mJ O O (bn 32 aJ O aQ O (fB cZ O (mF).get.2 O (jv O (fun h1 => ?_) (fun h1 => ?_)))))
 ·(try simp only [aF] at h1)
  have hin := h1
  refine mP O (aC (fD results30 O ?_))
  have PN := mF.f12.f12.f12.f12.f12.f12.f12.f12.f12.f12.f12.f12
  have LP := V.mV (s := s) jO PN
  exact ⟨by unfold dw.yx; rw [if_pos hin], by rw [OE hin]; exact LP⟩
 ·(try simp only [aF] at h1)
  have hin := h1
  refine iy (bY O (dO O (bn 32 aJ O aQ O (aI (ni 32 mF aQ) ?_))))
  rintro _ w5 H5
  refine ql O (mJ O O (bn 1 aJ O dH O (aW (sJ 1 (xs := [_, _, _, _, _, _, _, _, _, _, _, _]) bI O dH O O (H5).get.2 O) (fE O func72 (Vq H5.f4.f5.f5.f5 (by assumption) (by assumption) (by omega) (by assumption) (by assumption)) ?_))))
  rintro _ w6 ⟨qb6, qk6, nv6, rfl, H6⟩
  refine dO O (bn 13 aJ O dH O (aI (dG 13 (l' := [_, _, _, _, _, _, _, _, _, _, _, _, _, _, _, _, _, _, _, _, _, _, _, _, _, _, _, _, _, _, _, _, _, _, _, _, _, _, _, _, _, _]) (us := [_, _, _, _, _, _, _, _, _, _, _, _]) H6.f8 dH O O O (aG (aG (aY (by first | rfl | exact Rd.one ((H6.f7).oD)) (aY (by first | rfl | exact Rd.one ((H6.f3).aN)) (aG (aG (aY (by first | rfl | exact Rd.one ((H6.f9).jh)) (aY (by first | rfl | exact Rd.one ((H6.f10).oD)) (aG (aG (aG (aG bK)))))))))))) O O) ?_))
  rintro _ w7 H7
  refine ql O (jy O O (dO O (bn 33 aJ O aj O (aI (ni 33 H7 aj) ?_))))
  rintro _ w8 H8
  refine dO O (bn 34 aJ O aj O (aI (ni 34 H8 aj) ?_))
  rintro _ w9 H9
  refine dO O (bn 35 aJ O aj O (aI (ni 35 H9 aj) ?_))
  rintro _ w10 sF
  refine ql O (jy O O (jy O O (dO O (bn 36 aJ O aQ O (aI (ni 36 sF aQ) ?_)))))
  rintro _ Iq sG
  refine dO O (bn 37 aJ O aQ O (aI (ni 37 sG aQ) ?_))
  rintro _ w12 tN
  refine dO O (bn 38 aJ O aQ O (aI (ni 38 tN aQ) ?_))
  rintro _ Qz Ak
  refine dO O (bn 40 aJ O aQ O (aI (ni 40 Ak aQ) ?_))
  rintro _ TL Dh
  refine dO O (bn 41 aJ O aQ O (aI (ni 41 Dh aQ) ?_))
  rintro _ Ws CG
  refine ql O (dO O (bn 39 aJ O bG O (aI (ni 39 CG bG) ?_)))
  rintro _ w16 yj
  refine jd (mP O (fD results30 O ?_))
  have hin' : s.inn = false := by simpa using hin
  have WJ := yj.f8
  have aaV := WJ.abL
  have abP := aaV.f10
  have abQ := abP.ac2
  have aer := abQ.f12
  have aes := aer.abL
  have ahS := aes.f14
  have ahT := ahS.ac3
  have aeK := ahT.f2.f4.f6.f12.f9.f12.f12
  have aeL := V.ac1 (c := s.c) jO.EN jO.placed aeK
  have HX := aeL.f11.right.f11.right.f11.right.f10.f3.f4.f5.f10.f7.f10.f10.f10
  rw [show s.zV = s.c.last from if_neg (by simp [hin']), show s.UA = s.c.fr from if_neg (by simp [hin']), show s.UC = s.c.to from if_neg (by simp [hin'])] at HX
  exact ⟨by unfold dw.yx; rw [if_neg (by simp [hin'])], by rw [Bj hin']; exact V.Yr (Bj hin' ▸ jO.begin hin') HX⟩
end
end Go.Proofs.YtgofgnlkpeghcaaGreatDoor
end
