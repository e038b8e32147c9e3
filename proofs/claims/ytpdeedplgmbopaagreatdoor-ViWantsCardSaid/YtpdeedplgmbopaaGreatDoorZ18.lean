import Derived.Test.YtpdeedplgmbopaaGreatDoorZ4
import Derived.Test.YtpdeedplgmbopaaGreatDoorZ17
import Derived.Test.YtpdeedplgmbopaaGreatDoorZ6
import Derived.Test.YtpdeedplgmbopaaGreatDoorZ5
import Derived.Test.YtpdeedplgmbopaaGreatDoorZ12
import Derived.Test.YtpdeedplgmbopaaGreatDoorZ14
import Derived.Test.YtpdeedplgmbopaaGreatDoorZ11
set_option linter.unusedSimpArgs false
set_option linter.unusedVariables false
/- Texts of mine, joined, their names in short: Ref7b BufAny Ref7c RefAny RefRing REd EdSt REdX RLs2 REdA REd0 EBoth0 REdB REdR REdT. -/
section
namespace Go.Proofs.YtpdeedplgmbopaaGreatDoor
open Go.RowKit
section
variable {w0 w : World} {F : HP} {p : Nat} {L : List Int} {pt mk x : Int} {v : Value} {l : List Int}
end
end Go.Proofs.YtpdeedplgmbopaaGreatDoor
end
section

end
section
namespace Go.Proofs.YtpdeedplgmbopaaGreatDoor
open Go.RowKit
section
variable {w0 w : World} {F : HP} {p : Nat} {L : List Int} {pt mk x : Int} {v : Value} {l : List Int}
end
section
variable {w0 w : World} {F : HP} {p : Nat} {L : List Int} {pt mk : Int} {v d s : Value} {l dl il : List Int} {i j a x : Int}
end
end Go.Proofs.YtpdeedplgmbopaaGreatDoor
end
section
namespace Go.Proofs.YtpdeedplgmbopaaGreatDoor
open Go.RowKit
open _root_.Go.Proofs.Tryz
section
variable {w0 w : World} {F : HP} {p place : Nat} {E ls : List (List Int)} {v x y : Value} {l m : List Int} {vs : List Value}
theorem WS (H : V w0 w F) (h1 : jM w0 F .i32 x l) (h2 : jM w0 F .i32 y m) (hb : l.length + m.length ≤ 35184372088832) :
    gQ prog 181 #[x, y] w fun v w' => V w0 w' (kT 21 .i32 v (l ++ m) • F) := by
  refine nH func181 ntmps181 ?_
  refine jk O (jk O (bT O (bQ O (jy (lK (l := []) (H.iP none) (h1 _ (H)) ay WT O O (by first | omega | (simp only [List.length_append, List.length_nil, List.length_cons]; omega) | (simp; omega)) (by first | omega | (simp only [List.length_append, List.length_nil, List.length_cons]; omega) | (simp; omega))) ?_))))
  rintro l1 w1 H1
  try simp only [List.nil_append] at H1
  refine gB O (bT O (bQ O (jy (lK H1 (h2 _ (H1.right)) ay WT O O (by first | omega | (simp only [List.length_append, List.length_nil, List.length_cons]; omega) | (simp; omega)) (by first | omega | (simp only [List.length_append, List.length_nil, List.length_cons]; omega) | (simp; omega))) ?_)))
  rintro l2 w2 H2
  try simp only [List.nil_append] at H2
  refine fF O (dG results181 O ?_)
  simpa using H2
theorem TL (H : V w0 w F) (h1 : jM w0 F .i32 x l) (hb : l.length ≤ 35184372088832) :
    gQ prog 181 #[x, .slice none 0 0] w fun v w' => V w0 w' (kT 21 .i32 v l • F) := by
  have := WS H h1 (fun W _ => eX.nil W .i32 none 0 (by decide)) (by simpa using hb)
  simpa using this
def lZ (p : Nat) (E : List (List Int)) (place : Nat) : HP := rV fun v => dM p (.cells #[v, .int .i64 place] 176 (0, 0)) • LL 22 .i32 v E
theorem V.acx (H : V w0 w (lZ p E place • F)) : ∃ v, V w0 w (dM p (.cells #[v, .int .i64 place] 176 (0, 0)) • LL 22 .i32 v E • F) := let ⟨v, h⟩ := H.lQ; ⟨v, h.flat⟩
theorem V.Ih (H : V w0 w (dM p (.cells #[v, .int .i64 place] 176 (0, 0)) • LL 22 .i32 v E • F)) : V w0 w (lZ p E place • F) := V.iD v H.deep
theorem Ii {α : Type _} {l : List α} {k : Nat} {d : α} (h : k < l.length) : l.take (k + 1) = l.take k ++ [l.getD k d] := by rw [List.take_succ_eq_append_getElem h, List.getD_eq_getElem?_getD, List.getElem?_eq_getElem h]; rfl
end
end Go.Proofs.YtpdeedplgmbopaaGreatDoor
end
section
namespace Go.Proofs.YtpdeedplgmbopaaGreatDoor
open Go.RowKit
def uo (hl : List pO) (tx : Int → Option ByteArray) : List ByteArray := (List.range (hl.length + 1)).map fun (k : Nat) => jq hl tx (k : Int)
theorem Eo (hl : List pO) (tx : Int → Option ByteArray) : (uo hl tx).length = hl.length + 1 := by simp [uo]
theorem AV (hl : List pO) : (nT hl).length = hl.length + 1 := by simp [nT]
theorem WU {hl : List pO} {tx : Int → Option ByteArray} {k : Nat} (hk : k ≤ hl.length) : (uo hl tx).getD k .empty = jq hl tx k := by
  unfold uo
  rw [List.getD_eq_getElem?_getD, List.getElem?_map, List.getElem?_range (by omega)]; rfl
theorem WV {hl : List pO} {k : Nat} (hk : k ≤ hl.length) : (nT hl).getD k .empty = yT hl k := by
  unfold nT yT MR
  by_cases h : k < hl.length
  · rw [if_pos (by omega), List.getD_eq_getElem?_getD, List.getElem?_append_left (by simpa using h), List.getElem?_map, List.getElem?_eq_getElem h]
    simp [List.getD_eq_getElem?_getD, h]
  · obtain rfl : k = hl.length := by omega
    rw [if_neg (by omega), List.getD_eq_getElem?_getD, List.getElem?_append_right (by simp)]
    simp
theorem Ij (hl : List pO) : uo hl (fun _ => none) = nT hl := by
  apply List.ext_getElem?
  intro k
  by_cases h : k ≤ hl.length
  · have h1 := WU (tx := fun _ => none) h
    have h2 := WV h
    rw [List.getD_eq_getElem?_getD, List.getElem?_eq_getElem (by rw [Eo]; omega)] at h1
    rw [List.getD_eq_getElem?_getD, List.getElem?_eq_getElem (by rw [AV]; omega)] at h2
    rw [List.getElem?_eq_getElem (by rw [Eo]; omega), List.getElem?_eq_getElem (by rw [AV]; omega)]
    simp only [Option.getD_some] at h1 h2
    rw [h1, h2]; rfl
  · rw [List.getElem?_eq_none (by rw [Eo]; omega), List.getElem?_eq_none (by rw [AV]; omega)]
def DL (c : mD) : Prop := (∀ k, iH (c.un k) [] ≤ 16384 ∧ ∀ g ∈ c.un k, g ≠ []) ∧ (c.E.length ≤ 60 ∧ (c.at_ < c.E.length ∨ c.at_ = 0) ∧ ∀ e ∈ c.E, e.length ≤ 1024)
def RX (s : dJ) : Prop := DL s.c ∧ (s.inn = true → DL s.was ∧ s.c.last = s.was.last ∧ (s.lH = false → s.c.fr = s.was.fr ∧ s.c.to = s.was.to)) ∧ (s.inn = true → s.cls = 2 → s.lH = true)
def uM (hl : List pO) (A : List LE) : Prop := (A.map (·.1)).Nodup ∧ ∀ x ∈ A.map (·.1), 0 ≤ x ∧ x ≤ (hl.length : Int)
def Ep (pb pk : Nat) (wv nv pv gv : Value) (hl : List pO) (c : mD) : List Value := [.pointer (some ⟨pb, 0, none⟩), .pointer (some ⟨pk, 0, none⟩), wv, nv, .int .i64 c.place, .string (jq hl c.tx c.place), pv, gv, .int .i64 c.mode, .bool c.over, .int .i64 c.res, .bool c.run]
structure ROP where
  pb : Nat
  pk : Nat
  wv : Value
  nv : Value
  pv : Value
  gv : Value
  A : List LE
def Ba (inn : Bool) (hl : List pO) (c : mD) (u : List Value) : HP := if inn = true then rV fun (x : ROP) => fact (u = Ep x.pb x.pk x.wv x.nv x.pv x.gv hl c ∧ Fe x.A = c.un ∧ uM hl x.A ∧ (u.all fun x => x.oneCell') = true) •
  nV x.pb c.L c.pt c.mark • lZ x.pk c.E c.at_ • uy 1 x.wv (hl.length + 1) (strs (nT hl)) • Row 9 1 x.nv (hl.length + 1) (strs (uo hl c.tx)) • mQ .i64 x.pv (x.A.map (·.1)) • uy 1 x.gv x.A.length (x.A.map (·.2.1)) • qj x.A else fact ((u.all fun x => x.oneCell') = true)
structure jS (s : dJ) (es : List dV) (A : List LE) (yf yt : Int) : Prop where
  ok : lT s
  rx : RX s
  says : es.map dV.says = s.put
  Fe : Fe A = s.c.un
  placed : uM s.hl A
  WW : s.inn = true → s.lH = true → yf = s.c.fr ∧ yt = s.c.to
structure RdP where
  h : Nat
  pb : Nat
  pk : Nat
  wv : Value
  nv : Value
  pv : Value
  gv : Value
  A : List LE
  nw : Value
  es : List dV
  yf : Int
  yt : Int
  ch : Bool
  u0 : Value
  u1 : Value
  u2 : Value
  u3 : Value
  u4 : Value
  u5 : Value
  u6 : Value
  u7 : Value
  u8 : Value
  u9 : Value
  ua : Value
  ub : Value
def oK (y : Nat) (s : dJ) : HP := rV fun (x : RdP) => match x with
  | ⟨h, pb, pk, wv, nv, pv, gv, A, nw, es, yf, yt, ch, u0, u1, u2, u3, u4, u5, u6, u7, u8, u9, ua, ub⟩ => fact (jS s es A yf yt) • dM y (.cells (.pointer (some ⟨h, 0, none⟩) :: .pointer (some ⟨pb, 0, none⟩) :: .pointer (some ⟨pk, 0, none⟩) :: wv :: nv :: .int .i64 s.c.place :: .string (jq s.hl s.c.tx s.c.place) :: pv :: gv :: .int .i64 s.c.mode :: .bool s.c.over :: .int .i64 s.c.res :: .bool s.c.run :: u0 :: u1 :: u2 :: u3 :: u4 :: u5 :: u6 :: u7 :: u8 :: u9 :: ua :: ub :: .bool s.given :: .bool s.minus :: .int .i64 s.arg :: .int .i64 s.zk :: .int .i64 s.Ue :: .int .i64 s.Uf :: .int .i64 s.qO :: .bool s.inn :: .int .i64 s.cls :: .int .i64 yf :: .int .i64 yt :: .bool s.argues :: .bool s.killed :: .bool s.lH :: nw :: .bool s.whole :: .bool ch :: []).toArray 174 (0, 0)) • nV pb s.c.L s.c.pt s.c.mark • lZ pk s.c.E s.c.at_ • uy 1 wv (s.hl.length + 1) (strs (nT s.hl)) • Row 9 1 nv (s.hl.length + 1) (strs (uo s.hl s.c.tx)) • mQ .i64 pv (A.map (·.1)) • uy 1 gv A.length (A.map (·.2.1)) • qj A • jf h s.hl s.base s.most • Row 189 3 nw s.put.length (es.flatMap dV.enc) • kK es • Ba s.inn s.hl s.was [u0, u1, u2, u3, u4, u5, u6, u7, u8, u9, ua, ub]
section
variable {w0 w : World} {F : HP} {y : Nat} {s : dJ}
theorem V.Oj (H : V w0 w (oK y s • F)) : ∃ h pb pk wv nv pv gv A nw es yf yt ch u0 u1 u2 u3 u4 u5 u6 u7 u8 u9 ua ub, jS s es A yf yt ∧ es.length = s.put.length ∧ V w0 w (dM y (.cells (.pointer (some ⟨h, 0, none⟩) :: .pointer (some ⟨pb, 0, none⟩) :: .pointer (some ⟨pk, 0, none⟩) :: wv :: nv :: .int .i64 s.c.place :: .string (jq s.hl s.c.tx s.c.place) :: pv :: gv :: .int .i64 s.c.mode :: .bool s.c.over :: .int .i64 s.c.res :: .bool s.c.run :: u0 :: u1 :: u2 :: u3 :: u4 :: u5 :: u6 :: u7 :: u8 :: u9 :: ua :: ub :: .bool s.given :: .bool s.minus :: .int .i64 s.arg :: .int .i64 s.zk :: .int .i64 s.Ue :: .int .i64 s.Uf :: .int .i64 s.qO :: .bool s.inn :: .int .i64 s.cls :: .int .i64 yf :: .int .i64 yt :: .bool s.argues :: .bool s.killed :: .bool s.lH :: nw :: .bool s.whole :: .bool ch :: []).toArray 174 (0, 0)) • nV pb s.c.L s.c.pt s.c.mark • lZ pk s.c.E s.c.at_ • uy 1 wv (s.hl.length + 1) (strs (nT s.hl)) • Row 9 1 nv (s.hl.length + 1) (strs (uo s.hl s.c.tx)) • mQ .i64 pv (A.map (·.1)) • uy 1 gv A.length (A.map (·.2.1)) • qj A • jf h s.hl s.base s.most • Row 189 3 nw s.put.length (es.flatMap dV.enc) • kK es • Ba s.inn s.hl s.was [u0, u1, u2, u3, u4, u5, u6, u7, u8, u9, ua, ub] • F) := by
  obtain ⟨⟨h, pb, pk, wv, nv, pv, gv, A, nw, es, yf, yt, ch, u0, u1, u2, u3, u4, u5, u6, u7, u8, u9, ua, ub⟩, H⟩ := H.lQ
  obtain ⟨h1, H⟩ := H.flat.fact
  refine ⟨h, pb, pk, wv, nv, pv, gv, A, nw, es, yf, yt, ch, u0, u1, u2, u3, u4, u5, u6, u7, u8, u9, ua, ub, h1, ?_, ?_⟩
  · rw [← h1.says]; simp
  · exact H.of_eq (by simp only [bZ])
theorem V.rM {h pb pk : Nat} {wv nv pv gv : Value} {A : List LE} {nw : Value} {es : List dV} {yf yt : Int} {ch : Bool} {u0 u1 u2 u3 u4 u5 u6 u7 u8 u9 ua ub : Value} (h1 : jS s es A yf yt) (H : V w0 w (dM y (.cells (.pointer (some ⟨h, 0, none⟩) :: .pointer (some ⟨pb, 0, none⟩) :: .pointer (some ⟨pk, 0, none⟩) :: wv :: nv :: .int .i64 s.c.place :: .string (jq s.hl s.c.tx s.c.place) :: pv :: gv :: .int .i64 s.c.mode :: .bool s.c.over :: .int .i64 s.c.res :: .bool s.c.run :: u0 :: u1 :: u2 :: u3 :: u4 :: u5 :: u6 :: u7 :: u8 :: u9 :: ua :: ub :: .bool s.given :: .bool s.minus :: .int .i64 s.arg :: .int .i64 s.zk :: .int .i64 s.Ue :: .int .i64 s.Uf :: .int .i64 s.qO :: .bool s.inn :: .int .i64 s.cls :: .int .i64 yf :: .int .i64 yt :: .bool s.argues :: .bool s.killed :: .bool s.lH :: nw :: .bool s.whole :: .bool ch :: []).toArray 174 (0, 0)) • nV pb s.c.L s.c.pt s.c.mark • lZ pk s.c.E s.c.at_ • uy 1 wv (s.hl.length + 1) (strs (nT s.hl)) • Row 9 1 nv (s.hl.length + 1) (strs (uo s.hl s.c.tx)) • mQ .i64 pv (A.map (·.1)) • uy 1 gv A.length (A.map (·.2.1)) • qj A • jf h s.hl s.base s.most • Row 189 3 nw s.put.length (es.flatMap dV.enc) • kK es • Ba s.inn s.hl s.was [u0, u1, u2, u3, u4, u5, u6, u7, u8, u9, ua, ub] • F)) : V w0 w (oK y s • F) :=
  V.iD ⟨h, pb, pk, wv, nv, pv, gv, A, nw, es, yf, yt, ch, u0, u1, u2, u3, u4, u5, u6, u7, u8, u9, ua, ub⟩ (V.deep (V.kE h1 (H.of_eq (by simp only [bZ]))))
theorem TM {inn : Bool} {hl : List pO} {c : mD} {u : List Value} (H : V w0 w (Ba inn hl c u • F)) : (u.all fun x => x.oneCell') = true := by
  unfold Ba at H
  cases inn with
  | true =>
    rw [if_pos rfl] at H
    obtain ⟨x, H⟩ := H.lQ
    exact H.flat.fact.1.2.2.2
  | false =>
    rw [if_neg (by decide)] at H
    exact H.fact.1
theorem V.DN {hl : List pO} {c : mD} {u : List Value} (H : V w0 w F) (hu : (u.all fun x => x.oneCell') = true) : V w0 w (Ba false hl c u • F) := by
  unfold Ba
  rw [if_neg (by decide)]
  exact H.kE hu
theorem V.ad2 {hl : List pO} {c : mD} {u : List Value} (H : V w0 w (Ba true hl c u • F)) : ∃ pb pk wv nv pv gv A, u = Ep pb pk wv nv pv gv hl c ∧ Fe A = c.un ∧ uM hl A ∧ (u.all fun x => x.oneCell') = true ∧
    V w0 w (nV pb c.L c.pt c.mark • lZ pk c.E c.at_ • uy 1 wv (hl.length + 1) (strs (nT hl)) • Row 9 1 nv (hl.length + 1) (strs (uo hl c.tx)) • mQ .i64 pv (A.map (·.1)) • uy 1 gv A.length (A.map (·.2.1)) • qj A • F) := by
  unfold Ba at H
  rw [if_pos rfl] at H
  obtain ⟨⟨pb, pk, wv, nv, pv, gv, A⟩, H⟩ := H.lQ
  obtain ⟨⟨h1, h2, h3, h4⟩, H⟩ := H.flat.fact
  exact ⟨pb, pk, wv, nv, pv, gv, A, h1, h2, h3, h4, H.of_eq (by simp only [bZ])⟩
theorem V.YC {hl : List pO} {c : mD} {pb pk : Nat} {wv nv pv gv : Value} {A : List LE} (h2 : Fe A = c.un) (h3 : uM hl A) (H : V w0 w (nV pb c.L c.pt c.mark • lZ pk c.E c.at_ • uy 1 wv (hl.length + 1) (strs (nT hl)) • Row 9 1 nv (hl.length + 1) (strs (uo hl c.tx)) • mQ .i64 pv (A.map (·.1)) • uy 1 gv A.length (A.map (·.2.1)) • qj A • F)) : V w0 w (Ba true hl c (Ep pb pk wv nv pv gv hl c) • F) := by
  have o1 := (H.f3).oI.one
  have o2 := (H.f4).aT.one
  have o3 := (H.f5).jG.one
  have o4 := (H.f6).oI.one
  have hu : ((Ep pb pk wv nv pv gv hl c).all fun x => x.oneCell') = true := by
    unfold Ep
    simp only [List.all_cons, List.all_nil, o1, o2, o3, o4, Bool.and_true, Bool.true_and]
    rfl
  unfold Ba
  rw [if_pos rfl]
  exact V.iD ⟨pb, pk, wv, nv, pv, gv, A⟩ (V.deep (V.kE ⟨rfl, h2, h3, hu⟩ (H.of_eq (by simp only [bZ]))))
end
end Go.Proofs.YtpdeedplgmbopaaGreatDoor
end
section
namespace Go.Proofs.YtpdeedplgmbopaaGreatDoor
open Go.RowKit
open _root_.Go.Proofs.Tryz
def dJ.qK (s : dJ) (l : List Int) : Int := if s.inn then 1 else if 1024 < l.length then 3 else 0
def dJ.Cm (s : dJ) (hl : List pO) (base most : Int) (l : List Int) : dJ := if s.qK l = 0 then s.start hl base most l else s
theorem Ol {s : dJ} (h : lT s) (hi : s.inn = false) (hl : List pO) (base most : Int) (l : List Int) : lT (s.start hl base most l) := by
  obtain ⟨h1, h2, h3, h4, h5, h6⟩ := h
  refine ⟨NJ _ _ _ _ _, fun h => absurd (show s.inn = true from h) (by rw [hi]; decide), ⟨by show (-1 : Int) ≤ -1; decide, by show (-1 : Int) ≤ 1000000; decide⟩, h4, ?_, by simp [dJ.start, mD.fresh]⟩
  show iH [] s.put ≤ 16384
  unfold iH at *; simp at *; omega
section
variable {w0 w : World} {F : HP} {e p h pr : Nat} {s : dJ} {hl : List pO} {base most m : Int} {v : Value} {l : List Int}
theorem Ls (H : V w0 w (gG e s • gJ h hl base most • F)) (hr : jM w0 F .i32 v l) : gQ prog 59 #[.pointer (some ⟨e, 0, none⟩), .pointer (some ⟨h, 0, none⟩), v] w fun v' w' =>
  v' = .int .i64 (s.qK l) ∧ V w0 w' (gG e (s.Cm hl base most l) • gJ h hl base most • F) := by
 unfold dJ.Cm
 refine FY func59 ntmps59 ?_
 refine jk O (aO (aZ (bT O (eG O func65 (pq H) ?_))))
 rintro _ _ ⟨rfl, rfl⟩
 refine bQ O (bC (bQ O (bC (eG O func109 (rF H.f2) ?_))))
 rintro _ w2 ⟨q2, rfl, H2⟩
 refine bC (Z (iT jO O O) (iJ O O (gB O (Kr O (fun h1 => ?_)))))
 (try simp only [aF] at h1)
 refine aO ?_
 have OC := H2.right
 obtain ⟨xO, xP, xQ, xR, xU, xW, xX, xY, uK, sG, sH, sJ, sK, sN, sO, sQ, sS, sU, sV, sW, iw, dI, lg, iL⟩ := (OC.f2).Gz
 refine aB (nG O O (bF 16 ah O aQ O (gq bM O (iL).get.2 O (gB O (bG O (fun h2 => ?_) (fun h2 => ?_))))))
 ·(try simp only [aF] at h2)
  have hin := h2
  have hE : s.qK l = 1 := by unfold dJ.qK; rw [if_pos hin]
  refine jd O (aS (aG (dG results59 O ?_)))
  have XU := iL.f11.f11.f11.f11.f11.f11.f11.f11.f11.f11.f11
  have XV := V.iI (s := s) iw dI XU
  exact ⟨by rw [hE], by rw [if_neg (by rw [hE]; decide)]; exact XV.f2.f2⟩
 ·(try simp only [aF] at h2)
  have hin : s.inn = false := by simpa using h2
  refine bT O (Z (iF (hr _ (iL.right.right.right.right.right.right.right.right.right.right.right.right)) ay O) (Z (jc O O) (gB O (bG O (fun h3 => ?_) (fun h3 => ?_)))))
  ·(try simp only [aF] at h3)
   have hbig := h3
   have hE : s.qK l = 3 := by unfold dJ.qK; rw [if_neg (by simp [hin]), if_pos (by omega)]
   refine jd O (aS (aG (dG results59 O ?_)))
   have Ho9 := iL.f11.f11.f11.f11.f11.f11.f11.f11.f11.f11.f11
   have aaJ := V.iI (s := s) iw dI Ho9
   exact ⟨by rw [hE], by rw [if_neg (by rw [hE]; decide)]; exact aaJ.f2.f2⟩
  ·(try simp only [aF] at h3)
   have hE : s.qK l = 0 := by unfold dJ.qK; rw [if_neg (by simp [hin]), if_neg (by have h9 := h3; omega)]
   have hsh : l.length ≤ 1024 := by have h9 := h3; omega
   refine bU (aJ (aW (bT O (jF O O (eG O func111 (BA (E := s.c.E) (a := s.c.at_) iL.f2.right.f3.right.f3.right.f3.right.f3.right.f6.f6.f6.f6.f6.f7.f7 (fun W HW => hr W HW.right.right.right.right.right) hsh) ?_)))))
   rintro _ EI ⟨qb, qw, qt, qm, qh, rE⟩
   refine iK (jd O (dG results59 O ?_))
   exact ⟨by rw [hE], by rw [if_pos hE]; exact V.iI (s := s.start hl base most l) (Ol iw hin _ _ _ _) dI rE.f7.f12.f12.f12.f12.f11.f11.f11.f11.f12.f12.f12⟩
end
end Go.Proofs.YtpdeedplgmbopaaGreatDoor
end
section
namespace Go.Proofs.YtpdeedplgmbopaaGreatDoor
open Go.RowKit
section
variable {s : dJ} {es : List dV} {A : List LE} {yf yt : Int}
theorem jS.yV (h : jS s es A yf yt) (L : List Int) (p m : Int) : jS (s.yV L p m) es A yf yt := ⟨JK h.ok _ _ _, h.rx, h.says, h.Fe, h.placed, h.WW⟩
theorem jS.begin (h : jS s es A yf yt) (hi : s.inn = false) : jS s.jZ [] A 0 0 := by
  have h1 := NK h.ok hi
  have h0 := h.rx.1
  have hl := h.Fe
  have hq := h.placed
  rw [vM hi] at h1 ⊢
  exact ⟨h1, ⟨h0, fun _ => ⟨h0, rfl, fun _ => ⟨rfl, rfl⟩⟩, fun _ h2 => absurd h2 (by show ¬ (0 : Int) = 2; decide)⟩, rfl, hl, hq, fun _ h2 => absurd h2 (by show ¬ false = true; decide)⟩
theorem JW {c : mD} (h : DL c) {k : Int} {G : List (List iU)} (h1 : iH G [] ≤ 16384) (h2 : ∀ g ∈ G, g ≠ []) : DL { c with un := wQ c.un k G } := by
  refine ⟨fun j => ?_, h.2⟩
  show iH (wQ c.un k G j) [] ≤ 16384 ∧ ∀ g ∈ wQ c.un k G j, g ≠ []
  by_cases hj : j = k
  · subst hj; rw [nS]; exact ⟨h1, h2⟩
  · rw [tX _ _ hj]; exact h.1 j
theorem jS.none (h : jS s es A yf yt) {x : iU} (hx : x.2.1.length + x.2.2.length = 0) : jS (s.QW x) es A yf yt := by rw [V3 hx]; exact h
theorem DR (h : lT s) (hx : DL s.c) (hp : s.put ≠ []) (on : Bool) : iH (s.kY on) [] ≤ 16384 ∧ (∀ g ∈ s.kY on, g ≠ []) ∧ ∀ g ∈ s.kY on, ∀ e ∈ g, xK e := by
  obtain ⟨h1, h2, h3, h4, h5, h6⟩ := h
  have hs := oq s.here s.put
  have hne := (hx.1 s.c.place).2
  have h6' : ∀ g ∈ s.here, ∀ e ∈ g, xK e := h6 s.c.place
  have key : ∀ (G : List (List iU)) (g : List iU), iH (G ++ [g]) [] ≤ iH s.here s.put → (∀ x ∈ G, x ∈ s.here) → (∀ e ∈ g, xK e) → g ≠ [] →
      iH (G ++ [g]) [] ≤ 16384 ∧ (∀ x ∈ G ++ [g], x ≠ []) ∧ ∀ x ∈ G ++ [g], ∀ e ∈ x, xK e := by
    intro G g a1 a2 a3 a4
    refine ⟨by omega, fun x hx => ?_, fun x hx => ?_⟩
    · rcases List.mem_append.1 hx with hx | hx
      · exact hne x (a2 x hx)
      · rw [List.mem_singleton.1 hx]; exact a4
    · rcases List.mem_append.1 hx with hx | hx
      · exact h6' x (a2 x hx)
      · rw [List.mem_singleton.1 hx]; exact a3
  unfold dJ.kY
  rw [if_neg hp]
  cases on with
  | false =>
    rw [if_neg (by decide)]
    exact key s.here s.put (by rw [DC]; omega) (fun x hx => hx) h4 hp
  | true =>
    rw [if_pos rfl]
    by_cases h0 : s.here = []
    · rw [h0]
      exact key [] s.put (by rw [DC, VZ]; omega) (fun x hx => by cases hx) h4 hp
    · rw [List.getLast?_eq_some_getLast h0]
      have hd := Dz h0
      have h2 : s.here.getLastD [] = s.here.getLast h0 := by rw [List.getLastD_eq_getLast?, List.getLast?_eq_some_getLast h0]; rfl
      rw [h2] at hd
      refine key s.here.dropLast (s.here.getLast h0 ++ s.put) ?_ (fun x hx => List.dropLast_subset _ hx) (fun e he => ?_) (fun he => hp (List.append_eq_nil_iff.1 he).2)
      · rw [DC, List.length_append, hs]
        unfold iH
        simp only [List.length_nil, Nat.add_zero]
        omega
      · rcases List.mem_append.1 he with he | he
        · exact h6' _ (List.getLast_mem h0) e he
        · exact h4 e he
theorem TN (h : lT s) (hx : DL s.c) (on : Bool) : lT (s.gI on) := by
  by_cases hp : s.put = []
  · rw [yY hp]; exact h
  · obtain ⟨f1, f2, f3⟩ := DR h hx hp on
    rw [lN hp]
    obtain ⟨h1, h2, h3, h4, h5, h6⟩ := h
    refine ⟨h1, h2, h3, by simp, ?_, fun k g hg => ?_⟩
    · show iH (wQ s.c.un s.c.place (s.kY on) s.c.place) [] ≤ 16384
      rw [nS]; exact f1
    · have hg' : g ∈ wQ s.c.un s.c.place (s.kY on) k := hg
      by_cases hk : k = s.c.place
      · subst hk; rw [nS] at hg'; exact f3 g hg'
      · rw [tX _ _ hk] at hg'; exact h6 k g hg'
theorem TP (h : lT s) (hx : RX s) (on : Bool) : RX (s.gI on) := by
  by_cases hp : s.put = []
  · rw [yY hp]; exact hx
  · obtain ⟨f1, f2, f3⟩ := DR h hx.1 hp on
    rw [lN hp]
    exact ⟨JW hx.1 f1 f2, hx.2.1, hx.2.2⟩
theorem jS.sub (h : jS s es A yf yt) {G : List (List iU)} {A' : List LE} (h1 : iH G s.put ≤ iH s.here s.put) (h2 : ∀ g ∈ G, g ∈ s.here) (hA : _root_.Go.Proofs.YtpdeedplgmbopaaGreatDoor.Fe A' = wQ s.c.un s.c.place G) (hP : uM s.hl A') : jS (s.wB G) es A' yf yt := by
  have ht := (h.rx.1.1 s.c.place).1
  have he : iH s.here s.put = iH s.here [] + s.put.length := oq _ _
  have hg : iH G s.put = iH G [] + s.put.length := oq _ _
  have hh : iH s.here [] ≤ 16384 := ht
  exact ⟨aaD h.ok h1 h2, ⟨JW h.rx.1 (by omega) (fun g hg => (h.rx.1.1 s.c.place).2 g (h2 g hg)), h.rx.2.1, h.rx.2.2⟩, h.says, hA, hP, h.WW⟩
theorem TQ (h : DL s.c) : s.here.length ≤ 16384 := by
  have h1 := (h.1 s.c.place).1
  have h2 := (h.1 s.c.place).2
  have key : ∀ G : List (List iU), (∀ g ∈ G, g ≠ []) → G.length ≤ (G.map List.length).sum := by
    intro G hG
    induction G with
    | nil => simp
    | cons g r ih =>
      have := ih (fun x hx => hG x (List.mem_cons_of_mem _ hx))
      have h3 : 0 < g.length := List.length_pos_iff.2 (hG g (List.mem_cons_self ..))
      simp only [List.length_cons, List.map_cons, List.sum_cons]
      omega
  have h4 := key (s.c.un s.c.place) h2
  unfold iH at h1
  simp only [List.length_nil, Nat.add_zero] at h1
  exact Nat.le_trans h4 h1
theorem Qz {hl : List pO} {A : List LE} {k : Int} {u : Value} {gs : List (Value × List dV)} (h : uM hl A) (hk : 0 ≤ k ∧ k ≤ hl.length) : uM hl (yH A k u gs) := YA h hk
end
end Go.Proofs.YtpdeedplgmbopaaGreatDoor
end
section
namespace Go.Proofs.YtpdeedplgmbopaaGreatDoor
open Go.RowKit
open _root_.Go.Proofs.Tryz
theorem Lu {A : List LE} {i : Nat} (h : i < A.length) : (A.map (·.1)).getD i 0 = (A.getD i default).1 := by simp [List.getD_eq_getElem?_getD, h]
theorem RF {A : List LE} {i : Nat} (h : i < A.length) : (A.map (·.2.1)).getD i undef = (A.getD i default).2.1 := by simp [List.getD_eq_getElem?_getD, h]
theorem JX {A : List LE} {p : LE → Bool} {i : Nat} (h : i < A.length) : (A.take (i + 1)).filter p = (A.take i).filter p ++ (if p (A.getD i default) then [A.getD i default] else []) := by
  rw [List.take_succ_eq_append_getElem h, List.filter_append, List.getD_eq_getElem?_getD, List.getElem?_eq_getElem h]
  simp only [Option.getD_some, List.filter_cons, List.filter_nil]
section
variable {w0 w : World} {F : HP} {y : Nat} {k : Int} {pv gv u : Value} {A : List LE} {gs : List (Value × List dV)}
theorem QA {x0 x1 x2 x3 x4 x5 x6 x9 x10 x11 x12 uO x14 x15 x16 x17 x18 x19 x20 x21 vI x23 x24 x25 wo x27 x28 x29 x30 x31 x32 wX x34 LY LZ L6 x38 x39 x40 x41 : Value} (H : V w0 w (dM y (.cells (x0 :: x1 :: x2 :: x3 :: x4 :: x5 :: x6 :: pv :: gv :: x9 :: x10 :: x11 :: x12 :: uO :: x14 :: x15 :: x16 :: x17 :: x18 :: x19 :: x20 :: x21 :: vI :: x23 :: x24 :: x25 :: wo :: x27 :: x28 :: x29 :: x30 :: x31 :: x32 :: wX :: x34 :: LY :: LZ :: L6 :: x38 :: x39 :: x40 :: x41 :: []).toArray 174 (0, 0)) • mQ .i64 pv (A.map (·.1)) • uy 1 gv A.length (A.map (·.2.1)) • qj A • F)) : gQ prog 155 #[.pointer (some ⟨y, 7, none⟩), .int .i64 k] w fun v' w' => ∃ gs, Ai gs = Fe A k ∧
  V w0 w' (uy 1 v' gs.length (gs.map (·.1)) • nO gs • dM y (.cells (x0 :: x1 :: x2 :: x3 :: x4 :: x5 :: x6 :: pv :: gv :: x9 :: x10 :: x11 :: x12 :: uO :: x14 :: x15 :: x16 :: x17 :: x18 :: x19 :: x20 :: x21 :: vI :: x23 :: x24 :: x25 :: wo :: x27 :: x28 :: x29 :: x30 :: x31 :: x32 :: wX :: x34 :: LY :: LZ :: L6 :: x38 :: x39 :: x40 :: x41 :: []).toArray 174 (0, 0)) • mQ .i64 pv (A.map (·.1)) • uy 1 gv A.length (A.map (·.2.1)) • qj A • F) := by
 have hpl : (A.map (·.1)).length = A.length := List.length_map _
 have hcap : (A.length : Int) ≤ 9223372036854775807 := by obtain ⟨_, a, c, _, h2, h3, _⟩ := (H.f3).oI; omega
 refine nH func155 ntmps155 ?_
 refine jk O (aO (jk O (aZ ?_)))
 refine fC [(0, _), (1, _)] (fun (i : Nat) => [(5, .int .i64 (i : Int))]) (fun (i : Nat) W => (i ≤ A.length ∧ ∀ j, j < i → (A.getD j default).1 ≠ k) ∧ V w0 W (dM y (.cells (x0 :: x1 :: x2 :: x3 :: x4 :: x5 :: x6 :: pv :: gv :: x9 :: x10 :: x11 :: x12 :: uO :: x14 :: x15 :: x16 :: x17 :: x18 :: x19 :: x20 :: x21 :: vI :: x23 :: x24 :: x25 :: wo :: x27 :: x28 :: x29 :: x30 :: x31 :: x32 :: wX :: x34 :: LY :: LZ :: L6 :: x38 :: x39 :: x40 :: x41 :: []).toArray 174 (0, 0)) • mQ .i64 pv (A.map (·.1)) • uy 1 gv A.length (A.map (·.2.1)) • qj A • F)) (fun (i : Nat) => A.length - i) (0) oO kD ⟨⟨by omega, fun j hj => by omega⟩, H.f4.f4.f4.f4⟩ ?_
 rintro i w1 ⟨⟨hi, hne⟩, HL⟩
 dsimp only [List.cons_append, List.nil_append]
 refine aO (bT O (nG O O (bF 0 jv O sizeOf167 O (gq gy O (HL).get.2 O (Z (iF ((HL.f2).jG) gy O) (Z (gZ O O) (iV O (fun h1 => ?_) (fun h1 => ?_))))))))
 ·(try simp only [aF] at h1)
  refine fV (aO (aZ (aO ?_)))
  have hil : i < A.length := by omega
  refine aB (nG O O (bF 0 jv O sizeOf167 O (gq gy O (HL).get.2 O (bQ O ?_))))
  obtain ⟨bpv, opv, cpv, epv⟩ := eX.nX ((HL.f2).jG) (by omega)
  cases epv
  refine Z (dw gy aj O O (by omega)) ?_
  refine Z (dR (bV aN O) O (by first | exact eX.jT ((HL.f2).jG) (by omega) | exact eX.rP ((HL.f2).jG) (by omega) | exact eX.rO ((HL.f2).jG) (by omega))) ?_
  rw [Lu hil]
  refine bQ O (Z (dO O O) (iV O (fun h2 => ?_) (fun h2 => ?_)))
  ·(try simp only [aF] at h2)
   have hek : (A.getD i default).1 = k := h2
   refine bT O (dL O (bF 1 jv O sizeOf168 O (gq kR O (HL).get.2 O (bQ O ?_))))
   obtain ⟨bgv, ogv, cgv, egv⟩ := Rd.nX ((HL.f3).oI) (by omega)
   cases egv
   refine Z (dw kR fA O O (by omega)) ?_
   refine Z (dR (bV bg O) O (by first | exact Rd.jT ((HL.f3).oI) (by omega) | exact Rd.rP ((HL.f3).oI) (by omega) | exact Rd.rO ((HL.f3).oI) (by omega))) ?_
   rw [RF hil]
   have hat := aaI hil hne hek
   obtain ⟨xp, xv, xgs, hx⟩ : ∃ xp xv xgs, A.getD i default = (xp, xv, xgs) := ⟨_, _, _, rfl⟩
   rw [hx] at hat ⊢
   dsimp only at hat ⊢
   have Z9 := HL.f4
   have XZ := Z9.RD hil hx
   refine fF O (aS (aG (aG (aS (aG (dG results155 O ?_))))))
   exact ⟨xgs, hat.symm, XZ.f3.f6.f6.f6.f6.f6⟩
  ·(try simp only [aF] at h2)
   have hni : (A.getD i default).1 ≠ k := h2
   refine bU (aJ (aW (aB (bQ O (Z (fK O O (by omega)) (fU O (bP ?_)))))))
   refine dH (i + 1) ?_ ?_ ?_ ?_
   ·exact kD
   ·exact oO
   ·(try dsimp only)
    first | done | exact ⟨⟨by omega, fun j hj => (show j < i ∨ j = i from by omega).elim (hne j) (fun c => c ▸ hni)⟩, HL.f4.f4.f4.f4⟩
   ·(try dsimp only); omega
 ·(try simp only [aF] at h1)
  refine dn (aI (aI (aY (aW (aO ?_)))))
  obtain rfl : i = A.length := by omega
  refine aB (fF O (dG results155 O ?_))
  exact ⟨[], by rw [WM hne]; rfl, ((HL.f4.f4.f4.f4).YB none).Rz⟩
theorem Om {x0 x1 x2 x3 x4 x5 x6 x9 x10 x11 x12 uO x14 x15 x16 x17 x18 x19 x20 x21 vI x23 x24 x25 wo x27 x28 x29 x30 x31 x32 wX x34 LY LZ L6 x38 x39 x40 x41 : Value} (H : V w0 w (dM y (.cells (x0 :: x1 :: x2 :: x3 :: x4 :: x5 :: x6 :: pv :: gv :: x9 :: x10 :: x11 :: x12 :: uO :: x14 :: x15 :: x16 :: x17 :: x18 :: x19 :: x20 :: x21 :: vI :: x23 :: x24 :: x25 :: wo :: x27 :: x28 :: x29 :: x30 :: x31 :: x32 :: wX :: x34 :: LY :: LZ :: L6 :: x38 :: x39 :: x40 :: x41 :: []).toArray 174 (0, 0)) • mQ .i64 pv (A.map (·.1)) • uy 1 gv A.length (A.map (·.2.1)) • qj A • uy 1 u gs.length (gs.map (·.1)) • nO gs • F)) (hA : A.length ≤ 4097) : gQ prog 156 #[.pointer (some ⟨y, 7, none⟩), .int .i64 k, u] w fun _ w' => ∃ pv' gv',
  V w0 w' (dM y (.cells (x0 :: x1 :: x2 :: x3 :: x4 :: x5 :: x6 :: pv' :: gv' :: x9 :: x10 :: x11 :: x12 :: uO :: x14 :: x15 :: x16 :: x17 :: x18 :: x19 :: x20 :: x21 :: vI :: x23 :: x24 :: x25 :: wo :: x27 :: x28 :: x29 :: x30 :: x31 :: x32 :: wX :: x34 :: LY :: LZ :: L6 :: x38 :: x39 :: x40 :: x41 :: []).toArray 174 (0, 0)) • mQ .i64 pv' ((yH A k u gs).map (·.1)) • uy 1 gv' (yH A k u gs).length ((yH A k u gs).map (·.2.1)) • qj (yH A k u gs) • F) := by
 have hpl : (A.map (·.1)).length = A.length := List.length_map _
 have hfl : ∀ i, ((A.take i).filter fun x => x.1 != k).length ≤ A.length := fun i => Nat.le_trans (List.length_filter_le _ _) (by rw [List.length_take]; omega)
 have acy : ∀ i, (((A.take i).filter fun x => x.1 != k).map (·.1)).length = ((A.take i).filter fun x => x.1 != k).length := fun i => List.length_map _
 refine FY func156 ntmps156 ?_
 refine jk O (jk O (aO (jk O (aZ ?_))))
 refine fC [(0, _), (1, _), (2, _)] (fun (⟨i, u1, u2⟩ : Nat × Value × Value) => [(6, u1), (7, u2), (8, .int .i64 (i : Int))]) (fun (⟨i, u1, u2⟩ : Nat × Value × Value) W => i ≤ A.length ∧ V w0 W (kT 3 .i64 u1 (((A.take i).filter fun x => x.1 != k).map (·.1)) • Row 226 1 u2 ((A.take i).filter fun x => x.1 != k).length (((A.take i).filter fun x => x.1 != k).map (·.2.1)) • dM y (.cells (x0 :: x1 :: x2 :: x3 :: x4 :: x5 :: x6 :: pv :: gv :: x9 :: x10 :: x11 :: x12 :: uO :: x14 :: x15 :: x16 :: x17 :: x18 :: x19 :: x20 :: x21 :: vI :: x23 :: x24 :: x25 :: wo :: x27 :: x28 :: x29 :: x30 :: x31 :: x32 :: wX :: x34 :: LY :: LZ :: L6 :: x38 :: x39 :: x40 :: x41 :: []).toArray 174 (0, 0)) • mQ .i64 pv (A.map (·.1)) • uy 1 gv A.length (A.map (·.2.1)) • qj A • uy 1 u gs.length (gs.map (·.1)) • nO gs • F)) (fun (⟨i, u1, u2⟩ : Nat × Value × Value) => A.length - i) ((0, .slice none 0 0, .slice none 0 0)) uF uF ⟨by omega, ((H.f6.f6.f6.f6.f6.f6).iP (e := 226) (sz := 1) none).iP none⟩ ?_
 rintro ⟨i, u1, u2⟩ w1 ⟨hi, HL⟩
 dsimp only [List.cons_append, List.nil_append]
 refine aO (bT O (nG O O (bF 0 jv O sizeOf167 O (gq gy O (HL.f3).get.2 O (Z (iF ((HL.f4).jG) gy O) (Z (gZ O O) (iV O (fun h1 => ?_) (fun h1 => ?_))))))))
 ·(try simp only [aF] at h1)
  refine fV (aO (aZ (aO ?_)))
  have hil : i < A.length := by omega
  have hfi := hfl i
  have acz := acy i
  obtain ⟨xp, xv, xgs, hx⟩ : ∃ xp xv xgs, A.getD i default = (xp, xv, xgs) := ⟨_, _, _, rfl⟩
  refine aB (nG O O (bF 0 jv O sizeOf167 O (gq gy O (HL.f3).get.2 O (bQ O ?_))))
  obtain ⟨bpv, opv, cpv, epv⟩ := eX.nX ((HL.f4).jG) (by omega)
  cases epv
  refine Z (dw gy aj O O (by omega)) ?_
  refine Z (dR (bV aN O) O (by first | exact eX.jT ((HL.f4).jG) (by omega) | exact eX.rP ((HL.f4).jG) (by omega) | exact eX.rO ((HL.f4).jG) (by omega))) ?_
  rw [Lu hil, hx]
  dsimp only
  refine bQ O (Z (iZ O O) (iV O (fun h2 => ?_) (fun h2 => ?_)))
  ·(try simp only [aF] at h2)
   have hne : ¬ xp = k := h2
   refine bT O (nG O O (bF 0 jv O sizeOf167 O (gq gy O (HL.f3).get.2 O (bQ O (Z (dw gy aj O O (by omega)) ?_)))))
   refine Z (dR (bV aN O) O (by first | exact eX.jT ((HL.f4).jG) (by omega) | exact eX.rP ((HL.f4).jG) (by omega) | exact eX.rO ((HL.f4).jG) (by omega))) ?_
   rw [Lu hil, hx]
   dsimp only
   refine jy (vY (k := .i64) (l := [_]) HL gy aj zeroValue3 O O O (by decide)) ?_
   rintro l2 w2 H2
   refine jy (lK H2.f2 ((H2).aT) gy acA O O (by first | omega | (simp only [List.length_append, List.length_nil, List.length_cons]; omega) | (simp; omega)) (by first | omega | (simp only [List.length_append, List.length_nil, List.length_cons]; omega) | (simp; omega))) ?_
   rintro l3 w3 H3
   try simp only [List.nil_append] at H3
   refine gB O (aB (jF O O (dL O (bF 1 jv O sizeOf168 O (gq kR O (H3.f4).get.2 O (bQ O ?_))))))
   obtain ⟨bgv, ogv, cgv, egv⟩ := Rd.nX ((H3.f6).oI) (by omega)
   cases egv
   refine Z (dw kR fA O O (by omega)) ?_
   refine Z (dR (bV bg O) O (by first | exact Rd.jT ((H3.f6).oI) (by omega) | exact Rd.rP ((H3.f6).oI) (by omega) | exact Rd.rO ((H3.f6).oI) (by omega))) ?_
   rw [RF hil, hx]
   dsimp only
   have O9 := H3.f7
   have OB := O9.RD hil hx
   refine jy (jH (vs := [_]) OB kR fA zeroValue226 O O O (by decide) (aX (by first | rfl | exact Rd.one ((OB).oI)) bD)) ?_
   rintro l6 w6 H6
   refine jy (fZ H6.f7 kR WX O O O ((H6).aT) (aX (by first | rfl | exact Rd.one ((H6.f2).oI)) bD) (by omega) (by omega)) ?_
   rintro l7 w7 H7
   have Hd8 := H7.f2.right
   refine fU O (bP (aJ (aW (aB (bQ O (Z (fK O O (by omega)) (fU O (bP ?_))))))))
   refine dH ((i + 1, l3, l7)) ?_ ?_ ?_ ?_
   ·exact uF
   ·exact uF
   ·(try dsimp only)
    first | done | exact ⟨by omega, by rw [JX hil, hx]; dsimp only; first | (rw [if_pos (by simpa using hne)]; simp only [List.map_append, List.length_append]; exact Hd8.f2.right.f2.right.f4.right.f8.f8.f4.f8.f8.f8.f7.f8) | (rw [if_neg (by simpa using heq), List.append_nil]; exact Hd8.f2.right.f2.right.f4.right.f8.f8.f4.f8.f8.f8.f7.f8)⟩
   ·(try dsimp only); omega
  ·(try simp only [aF] at h2)
   have heq : xp = k := by have h9 := h2; omega
   refine bU (aJ (aW (aB (bQ O (Z (fK O O (by omega)) (fU O (bP ?_)))))))
   refine dH ((i + 1, u1, u2)) ?_ ?_ ?_ ?_
   ·exact uF
   ·exact uF
   ·(try dsimp only)
    first | done | exact ⟨by omega, by rw [JX hil, hx]; dsimp only; first | (rw [if_pos (by simpa using hne)]; simp only [List.map_append, List.length_append]; exact HL.f8.f8.f8.f8.f8.f8.f8.f8) | (rw [if_neg (by simpa using heq), List.append_nil]; exact HL.f8.f8.f8.f8.f8.f8.f8.f8)⟩
   ·(try dsimp only); omega
 ·(try simp only [aF] at h1)
  refine dn (aI (aI (aY (aW ?_))))
  obtain rfl : i = A.length := by omega
  have HX := HL
  rw [List.take_length] at HX
  have hfi := hfl A.length
  have acz := acy A.length
  rw [List.take_length] at hfi acz
  refine aB (jF O O (jF O O (jy (vY (k := .i64) (l := [_]) HX gy aj zeroValue3 O O O (by decide)) ?_)))
  rintro l9 w9 H9
  refine jy (lK H9.f2 ((H9).aT) gy acA O O (by first | omega | (simp only [List.length_append, List.length_nil, List.length_cons]; omega) | (simp; omega)) (by first | omega | (simp only [List.length_append, List.length_nil, List.length_cons]; omega) | (simp; omega))) ?_
  rintro l10 w10 ql
  try simp only [List.nil_append] at ql
  refine jF O O (jy (jH (vs := [_]) ql kR fA zeroValue226 O O O (by decide) (aX (by first | rfl | exact Rd.one ((ql.f8).oI)) bD)) ?_)
  rintro l11 EI rE
  refine jy (fZ rE.f4 kR WX O O O ((rE).aT) (aX (by first | rfl | exact Rd.one ((rE.f9).oI)) bD) (by omega) (by omega)) ?_
  rintro l12 w12 uG
  have acB := uG.f2.right
  refine dL O (bF 0 jv O sizeOf167 O (aK (fE 7 (l' := [_, _, _, _, _, _, _, _, _, _, _, _, _, _, _, _, _, _, _, _, _, _, _, _, _, _, _, _, _, _, _, _, _, _, _, _, _, _, _, _, _, _]) acB.f4 sizeOf167 O O (by first | rfl | exact Rd.one ((acB.f2).aT)) O O) ?_))
  rintro _ Si Aw
  refine dL O (bF 1 jv O sizeOf168 O (aK (fE 8 (l' := [_, _, _, _, _, _, _, _, _, _, _, _, _, _, _, _, _, _, _, _, _, _, _, _, _, _, _, _, _, _, _, _, _, _, _, _, _, _, _, _, _, _]) Aw sizeOf168 O O (by first | rfl | exact Rd.one ((Aw.f2).aT)) O O) ?_))
  rintro _ SA yQ
  refine bP (lX (.inr O) results156 ?_)
  have hs1 : (yH A k u gs).map (·.1) = (A.filter fun x => x.1 != k).map (·.1) ++ [k] := by unfold yH; rw [List.map_append]; rfl
  have hs2 : (yH A k u gs).map (·.2.1) = (A.filter fun x => x.1 != k).map (·.2.1) ++ [u] := by unfold yH; rw [List.map_append]; rfl
  have hs3 : (yH A k u gs).length = (A.filter fun x => x.1 != k).length + 1 := by unfold yH; rw [List.length_append]; rfl
  have HQ := (yQ.f4.right.f4.right.f4.right.f2.f3.f6.f6.f6).WR (p := k) |>.f2.oL.f3.En.f4.f3.f2
  exact ⟨_, _, by rw [hs1, hs2, hs3]; exact HQ⟩
end
section
variable {w0 w : World} {F : HP} {y : Nat} {s : dJ} {x : Int} {b : Bool}
theorem LC (H : V w0 w (oK y s • F)) : gQ prog 63 #[.pointer (some ⟨y, 0, none⟩), .int .i64 x] w fun v w' => v = .int .i64 (s.rG x) ∧ V w0 w' (oK y (s.yA x) • F) := by
 refine nH func63 ntmps63 ?_
 refine jk O (aO (aO ?_))
 obtain ⟨Xm, IZ, I4, I5, I7, TR, TS, A_y, TT, TU, Oo, Oq, Ot, I8, I9, Ja, Jb, Jc, Jd, Je, Jf, Jg, Jh, Ji, Jj, pz, CB, uN⟩ := (H).Oj
 refine aB (nG O O (bF 32 aP O aQ O (gq bM O (uN).get.2 O (Z (lS O) (jL O (fun h1 => ?_) (fun h1 => ?_))))))
 ·(try simp only [aF] at h1)
  refine bH (bH (jw O O (bQ O (bH (bH (jw O O (iK (Iz (jd O (aG (dG results63 O ?_)))))))))))
  have hd : s.rG x = 1 := by
   unfold dJ.rG
   by_cases hin : s.inn = true
   ·rw [if_pos hin, if_pos (by first | omega | (exfalso; simp_all))]
   ·rw [if_neg hin]
  have SE := uN.f12.f12.f12.f12.f12.f12.f12.f12.f12.f12.f12.f12
  have QO := V.rM (s := s) pz SE
  exact ⟨by rw [hd], by unfold dJ.yA; rw [if_neg (by rw [hd]; decide)]; exact QO⟩
 ·(try simp only [aF] at h1)
  refine bC (bQ O (bC (Z (gZ O O) (iJ O O (jL O (fun h2 => ?_) (fun h2 => ?_))))))
  ·(try simp only [aF] at h2)
   refine bH (bH (jw O O (iK (Iz (jd O (aG (dG results63 O ?_)))))))
   have hd : s.rG x = 1 := by
    unfold dJ.rG
    by_cases hin : s.inn = true
    ·rw [if_pos hin, if_pos (by first | omega | (exfalso; simp_all))]
    ·rw [if_neg hin]
   have XU := uN.f12.f12.f12.f12.f12.f12.f12.f12.f12.f12.f12.f12
   have XV := V.rM (s := s) pz XU
   exact ⟨by rw [hd], by unfold dJ.yA; rw [if_neg (by rw [hd]; decide)]; exact XV⟩
  ·(try simp only [aF] at h2)
   refine bC (bQ O (bC (Z (jc O O) (iJ O O (iV O (fun h3 => ?_) (fun h3 => ?_))))))
   ·(try simp only [aF] at h3)
    refine jd O (aG (dG results63 O ?_))
    have hd : s.rG x = 1 := by
     unfold dJ.rG
     by_cases hin : s.inn = true
     ·rw [if_pos hin, if_pos (by first | omega | (exfalso; simp_all))]
     ·rw [if_neg hin]
    have Ho9 := uN.f12.f12.f12.f12.f12.f12.f12.f12.f12.f12.f12.f12
    have aaJ := V.rM (s := s) pz Ho9
    exact ⟨by rw [hd], by unfold dJ.yA; rw [if_neg (by rw [hd]; decide)]; exact aaJ⟩
   ·(try simp only [aF] at h3)
    refine fV (aO ?_)
    have hin : s.inn = true := by first | assumption | (simp_all; done)
    have hd : s.rG x = 0 := by unfold dJ.rG; rw [if_pos hin, if_neg (by omega)]
    refine aB (jF O O (dL O (bF 1 aP O eH O (bF 8 dh O aj O (aK (kW 9 uN aj) ?_)))))
    rintro _ EI rE
    refine iK (jd O (dG results63 O ?_))
    rw [hd]
    refine ⟨O, ?_⟩
    unfold dJ.yA
    rw [if_pos hd]
    exact V.rM (s := { s with c := { s.c with mode := x } }) ⟨pz.ok, pz.rx, pz.says, pz.Fe, pz.placed, pz.WW⟩ rE.f12.f12.f12.f12.f12.f12.f12.f12.f12.f12.f12.f12
end
end Go.Proofs.YtpdeedplgmbopaaGreatDoor
end
section
namespace Go.Proofs.YtpdeedplgmbopaaGreatDoor
open Go.RowKit
section
variable {w0 w : World} {F : HP} {e h : Nat} {hl : List pO} {base most : Int}
end
section
variable {w0 w : World} {F : HP} {l : List pO} {v : Value}
end
end Go.Proofs.YtpdeedplgmbopaaGreatDoor
end
section
namespace Go.Proofs.YtpdeedplgmbopaaGreatDoor
open Go.RowKit
open _root_.Go.Proofs.Tryz
section
variable {w0 w : World} {F : HP} {p y h : Nat} {L : List Int} {pt mk n : Int} {E : List (List Int)} {place : Nat} {s : dJ} {l : List Int} {v wv nv : Value} {m : Nat} {xs ys : List Value}
theorem LD (H : V w0 w (nV p L pt mk • F)) : gQ prog 152 #[.pointer (some ⟨p, 0, none⟩)] w fun v w' => ∃ q, v = .pointer (some ⟨q, 0, none⟩) ∧ V w0 w' (nV q L pt mk • nV p L pt mk • F) := by
 refine iC func152 ntmps152 ?_
 refine jk O (aO ?_)
 obtain ⟨afc, afd, acC, acD, acE, afe, aff, ad3⟩ := (H).ref
 refine aB (vZ O ?_)
 have Qi := ad3.drew
 have lU := V.kp (Qi.f2.f2)
 refine yj [4, 9, 13] lU O (jE 0 O lU O (jE 1 O lU O (kJ 2 O lU O (gU 3 O lU 0 underlying222 O dN O (jQ 4 O lU (fun W hW => kC ay O ((Kp.h hW)).get.2 O) (jE 6 O lU O (kJ 7 O lU O (gU 8 O lU 1 underlying222 O aj O (jQ 9 O lU (fun W hW => kC aN O ((Kp.h hW)).get.2 O) (jE 10 O lU O (kJ 11 O lU O (gU 12 O lU 2 underlying222 O aj O (jQ 13 O lU (fun W hW => kC aN O ((Kp.h hW)).get.2 O) (oC 5 O (lK (l := []) (Qi.iP none) ((Qi.f2).aT) ay WT O O (by first | omega | (simp only [List.length_append, List.length_nil, List.length_cons]; omega) | (simp; omega)) (by first | omega | (simp only [List.length_append, List.length_nil, List.length_cons]; omega) | (simp; omega))) ?_))))))))))))))
 rintro l2 w2 H2
 try simp only [List.nil_append] at H2
 have xH := V.kp (H2.f3.f3.f3)
 refine dX xH (fun W hW => (Kp.h hW).right.f2.f2) ?_
 refine jC 14 O xH (fun _ => dW (zl := [.slice none 0 0, .int .i64 0, .int .i64 0]) (pl := [(0, 1), (1, 1), (2, 1)]) [_, _, _] underlying222 zeroValue222 O (fun w => by kernel_rfl) O (.one (Rd.one ((H2).aT)) (.on (.on .nil))) O) ?_
 refine oC 15 O (iO (l := [_, _, _]) H2 O O) ?_
 rintro _ w3 ⟨b3, rfl, H3⟩
 have yN := V.kp (H3.f4.f4.f4.f4)
 refine gV yN (by kernel_rfl) ?_
 refine jC 16 O yN (fun _ => dQ O) (qR (aW (mG (dG results152 O ?_))))
 have ZP := H3.f4.f4
 have ZQ := V.Qy acC acD acE ZP
 exact ⟨_, O, V.Qy acC acD acE ZQ.f3.f3⟩
theorem Ik (H : V w0 w (lZ p E place • F)) (hE : E.length ≤ 60 ∧ (place < E.length ∨ place = 0) ∧ ∀ e ∈ E, e.length ≤ 1024) : gQ prog 153 #[.pointer (some ⟨p, 0, none⟩)] w fun v w' => ∃ q, v = .pointer (some ⟨q, 0, none⟩) ∧ V w0 w' (lZ q E place • lZ p E place • F) := by
 obtain ⟨u, HR⟩ := H.acx
 obtain ⟨us, HR⟩ := HR.swap.ll
 obtain ⟨au, cu, rfl, -⟩ := (HR.aT).form
 have hE1 : E.length ≤ 60 := hE.1
 have hE2 : ∀ k, (E.getD k []).length ≤ 1024 := V4 hE.2.2
 refine iC func153 ntmps153 ?_
 refine jk O (jk O (aO (jk O (aZ ?_))))
 refine fC [(0, _)] (fun (⟨k, z⟩ : Nat × Value) => [(3, z), (4, .int .i64 (k : Int))]) (fun (⟨k, z⟩ : Nat × Value) W => k ≤ E.length ∧ ∃ zs, V w0 W (Row 22 1 z k zs • zM .i32 zs (E.take k) • Row 22 1 (.slice au E.length cu) E.length us • zM .i32 us E • dM p (.cells #[.slice au E.length cu, .int .i64 place] 176 (0, 0)) • F)) (fun (⟨k, z⟩ : Nat × Value) => E.length - k) ((0, .slice none 0 0)) kD oO ⟨by omega, [], (HR.f3.f3.f3).MC.iP none⟩ ?_
 rintro ⟨k, z⟩ w1 ⟨hk, zs, HL⟩
 dsimp only [List.cons_append, List.nil_append]
 obtain ⟨az, cz, rfl, -⟩ := (HL.aT).form
 refine aO (bT O (nG O O (bF 0 underlying176 O sizeOf47 O (gq iM O (HL.f5).get.2 O (Z (iW ((HL.f3).aT) iM O) (Z (gZ O O) (iV O (fun h1 => ?_) (fun h1 => ?_))))))))
 ·(try simp only [aF] at h1)
  refine fV (aO (aZ ?_))
  have hkl : k < E.length := by omega
  have hek := hE2 k
  refine aB (jF O O (dL O (bF 0 underlying176 O sizeOf47 O (gq iM O (HL.f5).get.2 O (bQ O ?_)))))
  obtain ⟨bu, ou, cu, eu⟩ := Rd.nX ((HL.f3).aT) (by omega)
  cases eu
  refine Z (dw iM dN O O (by omega)) ?_
  refine Z (dR (bV ay O) O (by first | exact Rd.jT ((HL.f3).aT) (by omega) | exact Rd.rP ((HL.f3).aT) (by omega) | exact Rd.rO ((HL.f3).aT) (by omega))) ?_
  refine Zz (fun aeA aaK => ?_)
  refine eG O func181 (TL HL (fun W HW => (by rw [aaK]; exact (HW.f4).XL (by omega))) (by omega)) ?_
  rintro u3 w3 H3
  have Hf4 := H3.oL
  refine jy (jH (vs := [_]) Hf4 iM dN zeroValue22 O O O (by decide) (aX (by first | rfl | exact Rd.one ((Hf4).jG)) bD)) ?_
  rintro l5 w5 H5
  refine jy (fZ H5.f3 iM Zm O O O ((H5).aT) (aX (by first | rfl | exact Rd.one ((H5.f2).jG)) bD) (by omega) (by omega)) ?_
  rintro l6 w6 H6
  have ZY := H6.f2.right
  refine fU O (bP (aJ (aW (aB (bQ O (Z (fK O O (by omega)) (fU O (bP ?_))))))))
  have HS := (ZY.f6.f6.f6.f4.f5.f6).Sz.f2
  refine dH ((k + 1, l6)) ?_ ?_ ?_ ?_
  ·exact oO
  ·exact kD
  ·(try dsimp only)
   first | done | exact ⟨by omega, _, by rw [Ii (d := []) hkl]; exact HS⟩
  ·(try dsimp only); omega
 ·(try simp only [aF] at h1)
  refine dn (aI (aI (aY (aW (bT O (nG O O (bF 1 underlying176 O aj O (gq aN O (HL.f5).get.2 O ?_))))))))
  refine Z (dW (zl := [.slice none 0 0, .int .i64 0]) (pl := [(0, 1), (1, 1)]) [_, _] underlying176 zeroValue176 O (fun w => by kernel_rfl) O (.one (Rd.one ((HL).aT)) (.on .nil)) O) ?_
  refine jy (iO (l := [_, _]) HL O O) ?_
  rintro _ w8 ⟨b8, rfl, H8⟩
  refine fF O (dG results153 O ?_)
  have HL2 := V.UJ (H8.f6.f6.f6.f4.f6.f6)
  rw [List.take_of_length_le (by omega)] at HL2
  have HL3 := V.Ih HL2.f2
  exact ⟨_, O, (V.Ih (V.UJ HL3.f3.f3).f3).f2⟩
theorem Il {x : Int} (H : V w0 w (dM p (.cells #[wv, nv, .int .i64 x] 166 (0, 0)) • Row 9 1 nv m ys • uy 1 wv m xs • F)) (hy : ∀ u ∈ ys, u.oneCell' = true) (hm : m ≤ 4097) : gQ prog 154 #[.pointer (some ⟨p, 0, none⟩)] w fun v w' => ∃ q nv', v = .pointer (some ⟨q, 0, none⟩) ∧
  V w0 w' (dM q (.cells #[wv, nv', .int .i64 x] 166 (0, 0)) • Row 9 1 nv' m ys • dM p (.cells #[wv, nv, .int .i64 x] 166 (0, 0)) • Row 9 1 nv m ys • uy 1 wv m xs • F) := by
 refine iC func154 ntmps154 ?_
 refine jk O (aO ?_)
 have P8 := H.drew
 have mF := V.kp (P8.f3.f3.f3)
 refine yj [3, 7, 12] mF O (jE 0 O mF O (kJ 1 O mF O (gU 2 O mF 0 fP O sizeOf33 O (jQ 3 O mF (fun W hW => kC dU O ((Kp.h hW)).get.2 O) (jE 4 O mF O (kJ 5 O mF O (gU 6 O mF 1 fP O sizeOf33 O (jQ 7 O mF (fun W hW => kC dU O ((Kp.h hW)).get.2 O) (jE 9 O mF O (kJ 10 O mF O (gU 11 O mF 2 fP O aj O (jQ 12 O mF (fun W hW => kC aN O ((Kp.h hW)).get.2 O) (oC 8 O (fZ (P8.iP none) dU X8 O O O ((P8.f2).aT) (by assumption) (by omega) (by omega)) ?_)))))))))))))
 rintro l1 w1 H1
 have acF := V.kp (H1.f4.f4.f4.f4)
 refine dX acF (fun W hW => (Kp.h hW).right.f3.f3.f3) ?_
 refine jC 13 O acF (fun _ => dW (zl := [.slice none 0 0, .slice none 0 0, .int .i64 0]) (pl := [(0, 1), (1, 1), (2, 1)]) [_, _, _] fP zeroValue166 O (fun w => by kernel_rfl) O (.one (Rd.one ((H1.f4).oI)) (.one (Rd.one ((H1).aT)) (.on .nil))) O) ?_
 refine oC 14 O (iO (l := [_, _, _]) H1 O O) ?_
 rintro _ w2 ⟨b2, rfl, H2⟩
 have xH := V.kp (H2.f5.f5.f5.f5.f5)
 refine gV xH (by kernel_rfl) ?_
 refine jC 15 O xH (fun _ => dQ O) (qR (aW (mG (dG results154 O ?_))))
 have HQ := H2.f5.f5.f5.f5.f5
 simp only [Nat.zero_add, List.nil_append] at HQ
 exact ⟨_, _, O, HQ⟩
theorem Ou {pb pk : Nat} {pv gv : Value} {x md rs : Int} {t : ByteArray} {ov rn : Bool} (H : V w0 w (nV pb L pt mk • lZ pk E place • Row 9 1 nv m ys • uy 1 wv m xs • F)) (hE : E.length ≤ 60 ∧ (place < E.length ∨ place = 0) ∧ ∀ e ∈ E, e.length ≤ 1024) (hy : ∀ u ∈ ys, u.oneCell' = true) (hm : m ≤ 4097) (o1 : pv.oneCell' = true) (o2 : gv.oneCell' = true) :
  gQ prog 115 #[.agg #[.pointer (some ⟨pb, 0, none⟩), .pointer (some ⟨pk, 0, none⟩), wv, nv, .int .i64 x, .string t, pv, gv, .int .i64 md, .bool ov, .int .i64 rs, .bool rn]] w fun v w' => ∃ qb qk nv',
   v = .agg #[.pointer (some ⟨qb, 0, none⟩), .pointer (some ⟨qk, 0, none⟩), wv, nv', .int .i64 x, .string t, pv, gv, .int .i64 md, .bool ov, .int .i64 rs, .bool rn] ∧
   V w0 w' (nV qb L pt mk • lZ qk E place • Row 9 1 nv' m ys • nV pb L pt mk • lZ pk E place • Row 9 1 nv m ys • uy 1 wv m xs • F) := by
 refine iC func115 ntmps115 ?_
 refine iy (jy (iO (l := [_, _, _, _, _, _, _, _, _, _, _, _]) H O O) ?_)
 rintro _ w1 ⟨b1, rfl, H1⟩
 refine jy (fM (l := [_, _, _, _, _, _, _, _, _, _, _, _]) H1 zeroValue172 O) ?_
 rintro _ w2 ⟨b2, rfl, H2⟩
 refine Xj (bF 0 dh O sizeOf163 O (gq underlying163 O (H2.f2).get.2 O (eG O func152 (LD H2.f3) ?_)))
 rintro _ w3 ⟨q3, rfl, H3⟩
 refine bF 0 dh O sizeOf163 O (aK (fE 0 (l' := [_, _, _, _, _, _, _, _, _, _, _, _]) H3.f4 sizeOf163 O O (by first | rfl | assumption) O O) ?_)
 rintro _ w4 H4
 refine Xj (bF 1 dh O sizeOf164 O (gq underlying164 O (H4).get.2 O (eG O func153 (Ik H4.f5 (by assumption)) ?_)))
 rintro _ w5 ⟨q5, rfl, H5⟩
 refine bF 1 dh O sizeOf164 O (aK (fE 1 (l' := [_, _, _, _, _, _, _, _, _, _, _, _]) H5.f3 sizeOf164 O O (by first | rfl | assumption) O O) ?_)
 rintro _ w6 H6
 refine Xj (bF 2 dh O nC O (Z (nY 2 (xs := [_, _, _]) fP O nC O O (H6).get.2 O) (jy (fM (l := [_, _, _]) H6 zeroValue166 O) ?_)))
 rintro _ w7 ⟨b7, rfl, H7⟩
 refine aK (bW 0 (l' := [_, _, _]) (us := [_, _, _]) H7 nC O O O (aX (by first | rfl | exact Rd.one ((H7.f9).oI)) (aX (by first | rfl | exact Rd.one ((H7.f8).aT)) (aA bD))) O O) ?_
 rintro _ w8 H8
 refine Xj (eG O func154 (Il H8.f9.f9.f3 (by assumption) (by omega)) ?_)
 rintro _ w9 ⟨q9, nv9, rfl, H9⟩
 refine dL O (Z (fD fP O nC O O (H9).get.2) (bF 2 dh O nC O (aK (bW 2 (l' := [_, _, _, _, _, _, _, _, _, _, _, _]) (us := [_, _, _]) H9.f6 nC O O O (aX (by first | rfl | exact Rd.one ((H9.f5).oI)) (aX (by first | rfl | exact Rd.one ((H9.f2).aT)) (aA bD))) O O) ?_)))
 rintro _ w10 ql
 refine Xj (Z (fD dh O eH O O (ql).get.2) (aK (bW 0 (l' := [_, _, _, _, _, _, _, _, _, _, _, _]) (us := [_, _, _, _, _, _, _, _, _, _, _, _]) ql.f11 eH O O O (aA (aA (aX (by first | rfl | exact Rd.one ((ql.f6).oI)) (aX (by first | rfl | exact Rd.one ((ql.f3).aT)) (aA (aA (aA (aA (aA (aA (aA (aA bD)))))))))))) O O) ?_))
 rintro _ EI rE
 refine YV ?_
 refine pY (.inl O) (J8 results115 O dh O (by rw [aaL]; rfl) (rE).get.2) ?_
 exact ⟨_, _, _, O, rE.right.right.right.f2.right.f3.f3.f5.f7.f5.f6.f7⟩
theorem V.YD {k : IntKind} (H : V w0 w (mQ k v l • F)) : V w0 w (mQ k v l • mQ k v l • F) := H.qV
theorem V.YE {A : List LE} (H : V w0 w (qj A • F)) : V w0 w (qj A • qj A • F) := H.qV
theorem V.RG {h pb pk : Nat} {wv nv pv gv : Value} {A : List LE} {yf yt : Int} {ch : Bool} {u0 u1 u2 u3 u4 u5 u6 u7 u8 u9 ua ub : Value} (h1 : jS s [] A yf yt) (H : V w0 w (dM y (.cells (.pointer (some ⟨h, 0, none⟩) :: .pointer (some ⟨pb, 0, none⟩) :: .pointer (some ⟨pk, 0, none⟩) :: wv :: nv :: .int .i64 s.c.place :: .string (jq s.hl s.c.tx s.c.place) :: pv :: gv :: .int .i64 s.c.mode :: .bool s.c.over :: .int .i64 s.c.res :: .bool s.c.run :: u0 :: u1 :: u2 :: u3 :: u4 :: u5 :: u6 :: u7 :: u8 :: u9 :: ua :: ub :: .bool s.given :: .bool s.minus :: .int .i64 s.arg :: .int .i64 s.zk :: .int .i64 s.Ue :: .int .i64 s.Uf :: .int .i64 s.qO :: .bool s.inn :: .int .i64 s.cls :: .int .i64 yf :: .int .i64 yt :: .bool s.argues :: .bool s.killed :: .bool s.lH :: .slice none 0 0 :: .bool s.whole :: .bool ch :: []).toArray 174 (0, 0)) • nV pb s.c.L s.c.pt s.c.mark • lZ pk s.c.E s.c.at_ • uy 1 wv (s.hl.length + 1) (strs (nT s.hl)) • Row 9 1 nv (s.hl.length + 1) (strs (uo s.hl s.c.tx)) • mQ .i64 pv (A.map (·.1)) • uy 1 gv A.length (A.map (·.2.1)) • qj A • jf h s.hl s.base s.most • Ba s.inn s.hl s.was [u0, u1, u2, u3, u4, u5, u6, u7, u8, u9, ua, ub] • F)) : V w0 w (oK y s • F) := by
  refine V.rM (y := y) (h := h) (pb := pb) (pk := pk) (wv := wv) (nv := nv) (pv := pv) (gv := gv) (ch := ch) (u0 := u0) (u1 := u1) (u2 := u2) (u3 := u3) (u4 := u4) (u5 := u5) (u6 := u6) (u7 := u7) (u8 := u8) (u9 := u9) (ua := ua) (ub := ub) (nw := .slice none 0 0) (es := []) h1 ?_
  rw [← h1.says]
  exact (H.rD none).of_eq (by unfold Jv; simp only [List.length_nil, List.flatMap_nil, List.map_nil]; ac_rfl)
theorem V.RH {h pb pk : Nat} {wv nv pv gv : Value} {A : List LE} {yf yt : Int} {ch : Bool} {u0 u1 u2 u3 u4 u5 u6 u7 u8 u9 ua ub : Value} (h1 : jS s [] A yf yt) (hi : s.inn = false) (H : V w0 w (dM y (.cells (.pointer (some ⟨h, 0, none⟩) :: .pointer (some ⟨pb, 0, none⟩) :: .pointer (some ⟨pk, 0, none⟩) :: wv :: nv :: .int .i64 s.c.place :: .string (jq s.hl s.c.tx s.c.place) :: pv :: gv :: .int .i64 s.c.mode :: .bool s.c.over :: .int .i64 s.c.res :: .bool s.c.run :: u0 :: u1 :: u2 :: u3 :: u4 :: u5 :: u6 :: u7 :: u8 :: u9 :: ua :: ub :: .bool s.given :: .bool s.minus :: .int .i64 s.arg :: .int .i64 s.zk :: .int .i64 s.Ue :: .int .i64 s.Uf :: .int .i64 s.qO :: .bool false :: .int .i64 s.cls :: .int .i64 yf :: .int .i64 yt :: .bool s.argues :: .bool s.killed :: .bool s.lH :: .slice none 0 0 :: .bool s.whole :: .bool ch :: []).toArray 174 (0, 0)) • nV pb s.c.L s.c.pt s.c.mark • lZ pk s.c.E s.c.at_ • uy 1 wv (s.hl.length + 1) (strs (nT s.hl)) • Row 9 1 nv (s.hl.length + 1) (strs (uo s.hl s.c.tx)) • mQ .i64 pv (A.map (·.1)) • uy 1 gv A.length (A.map (·.2.1)) • qj A • jf h s.hl s.base s.most • F)) (hu : ([u0, u1, u2, u3, u4, u5, u6, u7, u8, u9, ua, ub].all fun x => x.oneCell') = true) : V w0 w (oK y s • F) := by
  refine V.RG (y := y) (h := h) (pb := pb) (pk := pk) (wv := wv) (nv := nv) (pv := pv) (gv := gv) (ch := ch) (u0 := u0) (u1 := u1) (u2 := u2) (u3 := u3) (u4 := u4) (u5 := u5) (u6 := u6) (u7 := u7) (u8 := u8) (u9 := u9) (ua := ua) (ub := ub) h1 ?_
  rw [hi]
  exact (H.DN (hl := s.hl) (c := s.was) (u := [u0, u1, u2, u3, u4, u5, u6, u7, u8, u9, ua, ub]) hu).of_eq (by ac_rfl)
theorem Jk (H : V w0 w (oK y s • F)) : gQ prog 61 #[.pointer (some ⟨y, 0, none⟩)] w fun v w' => v = .int .i64 s.BO ∧ V w0 w' (oK y s.jZ • F) := by
 refine iC func61 ntmps61 ?_
 refine jk O (aO (aO ?_))
 obtain ⟨Xm, IZ, I4, I5, I7, TR, TS, A_y, TT, TU, Oo, Oq, Ot, I8, I9, Ja, Jb, Jc, Jd, Je, Jf, Jg, Jh, Ji, Jj, pz, CB, uN⟩ := (H).Oj
 have hE9 := pz.rx.1.2
 have hy9 := @JF (uo s.hl s.c.tx)
 obtain ⟨hv9, hk9, _⟩ := (uN.f9).Q9
 have hhl := hk9.1
 have o1 := (uN.f6).jG.one
 have o2 := (uN.f7).oI.one
 refine aB (nG O O (bF 32 aP O aQ O (gq bM O (uN).get.2 O (iV O (fun h1 => ?_) (fun h1 => ?_)))))
 ·(try simp only [aF] at h1)
  have hin := h1
  refine jd O (aG (dG results61 O ?_))
  have SE := uN.f12.f12.f12.f12.f12.f12.f12.f12.f12.f12.f12.f12
  have QO := V.rM (s := s) pz SE
  exact ⟨by unfold dJ.BO; rw [if_pos hin], by rw [Hl hin]; exact QO⟩
 ·(try simp only [aF] at h1)
  have hin := h1
  refine fV (bT O (dL O (bF 32 aP O aQ O (aK (kW 32 uN aQ) ?_))))
  rintro _ w5 H5
  refine qQ O (nG O O (bF 1 aP O eH O (Z (nY 1 (xs := [_, _, _, _, _, _, _, _, _, _, _, _]) dh O eH O O (H5).get.2 O) (eG O func115 (Ou H5.f4.f5.f5.f5 (by assumption) (by assumption) (by omega) (by assumption) (by assumption)) ?_))))
  rintro _ w6 ⟨qb6, qk6, nv6, rfl, H6⟩
  refine dL O (bF 13 aP O eH O (aK (bW 13 (l' := [_, _, _, _, _, _, _, _, _, _, _, _, _, _, _, _, _, _, _, _, _, _, _, _, _, _, _, _, _, _, _, _, _, _, _, _, _, _, _, _, _, _]) (us := [_, _, _, _, _, _, _, _, _, _, _, _]) H6.f8 eH O O O (aA (aA (aX (by first | rfl | exact Rd.one ((H6.f7).oI)) (aX (by first | rfl | exact Rd.one ((H6.f3).aT)) (aA (aA (aX (by first | rfl | exact Rd.one ((H6.f9).jG)) (aX (by first | rfl | exact Rd.one ((H6.f10).oI)) (aA (aA (aA (aA bD)))))))))))) O O) ?_))
  rintro _ w7 H7
  refine qQ O (jF O O (dL O (bF 33 aP O aj O (aK (kW 33 H7 aj) ?_))))
  rintro _ w8 H8
  refine dL O (bF 34 aP O aj O (aK (kW 34 H8 aj) ?_))
  rintro _ w9 H9
  refine dL O (bF 35 aP O aj O (aK (kW 35 H9 aj) ?_))
  rintro _ w10 ql
  refine qQ O (jF O O (jF O O (dL O (bF 36 aP O aQ O (aK (kW 36 ql aQ) ?_)))))
  rintro _ EI rE
  refine dL O (bF 37 aP O aQ O (aK (kW 37 rE aQ) ?_))
  rintro _ w12 uG
  refine dL O (bF 38 aP O aQ O (aK (kW 38 uG aQ) ?_))
  rintro _ Pn wZ
  refine dL O (bF 40 aP O aQ O (aK (kW 40 wZ aQ) ?_))
  rintro _ Si Aw
  refine dL O (bF 41 aP O aQ O (aK (kW 41 Aw aQ) ?_))
  rintro _ SA yQ
  refine qQ O (dL O (bF 39 aP O bJ O (aK (kW 39 yQ bJ) ?_)))
  rintro _ w16 yL
  refine iK (jd O (dG results61 O ?_))
  have hin' : s.inn = false := by simpa using hin
  have PI := yL.f8
  have PK := PI.WO
  have ad4 := PK.f10
  have ad5 := ad4.YD
  have aaA := ad5.f12
  have aaB := aaA.WO
  have VL := aaB.f14
  have VN := VL.YE
  have aaM := VN.f2.f4.f6.f12.f9.f12.f12
  have aaN := V.YC (c := s.c) pz.Fe pz.placed aaM
  have HX := aaN.f11.right.f11.right.f11.right.f10.f3.f4.f5.f10.f7.f10.f10.f10
  rw [show s.zk = s.c.last from if_neg (by simp [hin']), show s.Ue = s.c.fr from if_neg (by simp [hin']), show s.Uf = s.c.to from if_neg (by simp [hin'])] at HX
  exact ⟨by unfold dJ.BO; rw [if_neg (by simp [hin'])], by rw [vM hin']; exact V.RG (vM hin' ▸ pz.begin hin') HX⟩
end
end Go.Proofs.YtpdeedplgmbopaaGreatDoor
end
section
namespace Go.Proofs.YtpdeedplgmbopaaGreatDoor
open Go.RowKit
section
variable {w0 w : World} {F : HP} {p y h : Nat} {s : dJ} {l dl il : List Int} {v d i : Value} {a x j k : Int}
end
section
variable {w0 w : World} {F : HP} {p y h : Nat} {s : dJ} {l : List Int} {v : Value} {j k : Int}
theorem jS.cls {es : List dV} {A : List LE} {yf yt : Int} (h : jS s es A yf yt) (c : Int) (hc : c ≠ 2) : jS { s with cls := c } es A yf yt :=
  ⟨h.ok, ⟨h.rx.1, h.rx.2.1, fun _ h2 => absurd h2 hc⟩, h.says, h.Fe, h.placed, h.WW⟩
end
end Go.Proofs.YtpdeedplgmbopaaGreatDoor
end
