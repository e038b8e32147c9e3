import Derived.Test.YtpdeedplgmbopaaGreatDoorZ4
import Derived.Test.YtpdeedplgmbopaaGreatDoorZ17
import Derived.Test.YtpdeedplgmbopaaGreatDoorZ6
import Derived.Test.YtpdeedplgmbopaaGreatDoorZ5
import Derived.Test.YtpdeedplgmbopaaGreatDoorZ12
import Derived.Test.YtpdeedplgmbopaaGreatDoorZ14
import Derived.Test.YtpdeedplgmbopaaGreatDoorZ11
set_option linter.unusedSimpArgs false
set_option linter.unusedVariables false
/- Texts of mine, joined, their names in short: Ref7b BufAny Ref7c RefAny RefRing REd EdSt REdX RLs2 REdA REd0 EBoth0 REdB REdR REdT. -/
section
namespace Go.Proofs.YtpdeedplgmbopaaGreatDoor
open Go.RowKit
section
variable {w0 w : World} {F : HP} {p : Nat} {L : List Int} {pt mk x : Int} {v : Value} {l : List Int}
end
end Go.Proofs.YtpdeedplgmbopaaGreatDoor
end
section

end
section
namespace Go.Proofs.YtpdeedplgmbopaaGreatDoor
open Go.RowKit
section
variable {w0 w : World} {F : HP} {p : Nat} {L : List Int} {pt mk x : Int} {v : Value} {l : List Int}
end
section
variable {w0 w : World} {F : HP} {p : Nat} {L : List Int} {pt mk : Int} {v d s : Value} {l dl il : List Int} {i j a x : Int}
end
end Go.Proofs.YtpdeedplgmbopaaGreatDoor
end
section
namespace Go.Proofs.YtpdeedplgmbopaaGreatDoor
open Go.RowKit
open _root_.Go.Proofs.Tryz
section
variable {w0 w : World} {F : HP} {p place : Nat} {E ls : List (List Int)} {v x y : Value} {l m : List Int} {vs : List Value}
theorem WM (H : V w0 w F) (h1 : jq w0 F .i32 x l) (h2 : jq w0 F .i32 y m) (hb : l.length + m.length ≤ 35184372088832) :
    gJ prog 181 #[x, y] w fun v w' => V w0 w' (kW 21 .i32 v (l ++ m) • F) := by
  refine nT func181 ntmps181 ?_
  refine jr O (jr O (bT O (bP O (jv (lK (l := []) (H.iO none) (h1 _ (H)) ay WO O O (by first | omega | (simp only [List.length_append, List.length_nil, List.length_cons]; omega) | (simp; omega)) (by first | omega | (simp only [List.length_append, List.length_nil, List.length_cons]; omega) | (simp; omega))) ?_))))
  rintro l1 w1 H1
  try simp only [List.nil_append] at H1
  refine gI O (bT O (bP O (jv (lK H1 (h2 _ (H1.right)) ay WO O O (by first | omega | (simp only [List.length_append, List.length_nil, List.length_cons]; omega) | (simp; omega)) (by first | omega | (simp only [List.length_append, List.length_nil, List.length_cons]; omega) | (simp; omega))) ?_)))
  rintro l2 w2 H2
  try simp only [List.nil_append] at H2
  refine fC O (dH results181 O ?_)
  simpa using H2
theorem TG (H : V w0 w F) (h1 : jq w0 F .i32 x l) (hb : l.length ≤ 35184372088832) :
    gJ prog 181 #[x, .slice none 0 0] w fun v w' => V w0 w' (kW 21 .i32 v l • F) := by
  have := WM H h1 (fun W _ => fB.nil W .i32 none 0 (by decide)) (by simpa using hb)
  simpa using this
def mg (p : Nat) (E : List (List Int)) (place : Nat) : HP := rQ fun v => dL p (.cells #[v, .int .i64 place] 176 (0, 0)) • LL 22 .i32 v E
theorem V.acB (H : V w0 w (mg p E place • F)) : ∃ v, V w0 w (dL p (.cells #[v, .int .i64 place] 176 (0, 0)) • LL 22 .i32 v E • F) := let ⟨v, h⟩ := H.lQ; ⟨v, h.flat⟩
theorem V.HY (H : V w0 w (dL p (.cells #[v, .int .i64 place] 176 (0, 0)) • LL 22 .i32 v E • F)) : V w0 w (mg p E place • F) := V.iy v H.deep
theorem Ia {α : Type _} {l : List α} {k : Nat} {d : α} (h : k < l.length) : l.take (k + 1) = l.take k ++ [l.getD k d] := by rw [List.take_succ_eq_append_getElem h, List.getD_eq_getElem?_getD, List.getElem?_eq_getElem h]; rfl
end
end Go.Proofs.YtpdeedplgmbopaaGreatDoor
end
section
namespace Go.Proofs.YtpdeedplgmbopaaGreatDoor
open Go.RowKit
def uw (hl : List pR) (tx : Int → Option ByteArray) : List ByteArray := (List.range (hl.length + 1)).map fun (k : Nat) => jl hl tx (k : Int)
theorem Eo (hl : List pR) (tx : Int → Option ByteArray) : (uw hl tx).length = hl.length + 1 := by simp [uw]
theorem AP (hl : List pR) : (nP hl).length = hl.length + 1 := by simp [nP]
theorem WR {hl : List pR} {tx : Int → Option ByteArray} {k : Nat} (hk : k ≤ hl.length) : (uw hl tx).getD k .empty = jl hl tx k := by
  unfold uw
  rw [List.getD_eq_getElem?_getD, List.getElem?_map, List.getElem?_range (by omega)]; rfl
theorem WS {hl : List pR} {k : Nat} (hk : k ≤ hl.length) : (nP hl).getD k .empty = yX hl k := by
  unfold nP yX MO
  by_cases h : k < hl.length
  · rw [if_pos (by omega), List.getD_eq_getElem?_getD, List.getElem?_append_left (by simpa using h), List.getElem?_map, List.getElem?_eq_getElem h]
    simp [List.getD_eq_getElem?_getD, h]
  · obtain rfl : k = hl.length := by omega
    rw [if_neg (by omega), List.getD_eq_getElem?_getD, List.getElem?_append_right (by simp)]
    simp
theorem Ib (hl : List pR) : uw hl (fun _ => none) = nP hl := by
  apply List.ext_getElem?
  intro k
  by_cases h : k ≤ hl.length
  · have h1 := WR (tx := fun _ => none) h
    have h2 := WS h
    rw [List.getD_eq_getElem?_getD, List.getElem?_eq_getElem (by rw [Eo]; omega)] at h1
    rw [List.getD_eq_getElem?_getD, List.getElem?_eq_getElem (by rw [AP]; omega)] at h2
    rw [List.getElem?_eq_getElem (by rw [Eo]; omega), List.getElem?_eq_getElem (by rw [AP]; omega)]
    simp only [Option.getD_some] at h1 h2
    rw [h1, h2]; rfl
  · rw [List.getElem?_eq_none (by rw [Eo]; omega), List.getElem?_eq_none (by rw [AP]; omega)]
def DF (c : mD) : Prop := (∀ k, iE (c.un k) [] ≤ 16384 ∧ ∀ g ∈ c.un k, g ≠ []) ∧ (c.E.length ≤ 60 ∧ (c.at_ < c.E.length ∨ c.at_ = 0) ∧ ∀ e ∈ c.E, e.length ≤ 1024)
def RX (s : dG) : Prop := DF s.c ∧ (s.inn = true → DF s.was ∧ s.c.last = s.was.last ∧ (s.lI = false → s.c.fr = s.was.fr ∧ s.c.to = s.was.to)) ∧ (s.inn = true → s.cls = 2 → s.lI = true)
def uO (hl : List pR) (A : List LE) : Prop := (A.map (·.1)).Nodup ∧ ∀ x ∈ A.map (·.1), 0 ≤ x ∧ x ≤ (hl.length : Int)
def Ep (pb pk : Nat) (wv nv pv gv : Value) (hl : List pR) (c : mD) : List Value := [.pointer (some ⟨pb, 0, none⟩), .pointer (some ⟨pk, 0, none⟩), wv, nv, .int .i64 c.place, .string (jl hl c.tx c.place), pv, gv, .int .i64 c.mode, .bool c.over, .int .i64 c.res, .bool c.run]
structure ROP where
  pb : Nat
  pk : Nat
  wv : Value
  nv : Value
  pv : Value
  gv : Value
  A : List LE
def AZ (inn : Bool) (hl : List pR) (c : mD) (u : List Value) : HP := if inn = true then rQ fun (x : ROP) => fact (u = Ep x.pb x.pk x.wv x.nv x.pv x.gv hl c ∧ Fa x.A = c.un ∧ uO hl x.A ∧ (u.all fun x => x.oneCell') = true) •
  nS x.pb c.L c.pt c.mark • mg x.pk c.E c.at_ • uD 1 x.wv (hl.length + 1) (strs (nP hl)) • Row 9 1 x.nv (hl.length + 1) (strs (uw hl c.tx)) • mP .i64 x.pv (x.A.map (·.1)) • uD 1 x.gv x.A.length (x.A.map (·.2.1)) • qj x.A else fact ((u.all fun x => x.oneCell') = true)
structure jQ (s : dG) (es : List dQ) (A : List LE) (yf yt : Int) : Prop where
  ok : lT s
  rx : RX s
  says : es.map dQ.says = s.put
  Fa : Fa A = s.c.un
  placed : uO s.hl A
  WT : s.inn = true → s.lI = true → yf = s.c.fr ∧ yt = s.c.to
structure RdP where
  h : Nat
  pb : Nat
  pk : Nat
  wv : Value
  nv : Value
  pv : Value
  gv : Value
  A : List LE
  nw : Value
  es : List dQ
  yf : Int
  yt : Int
  ch : Bool
  u0 : Value
  u1 : Value
  u2 : Value
  u3 : Value
  u4 : Value
  u5 : Value
  u6 : Value
  u7 : Value
  u8 : Value
  u9 : Value
  ua : Value
  ub : Value
def oJ (y : Nat) (s : dG) : HP := rQ fun (x : RdP) => match x with
  | ⟨h, pb, pk, wv, nv, pv, gv, A, nw, es, yf, yt, ch, u0, u1, u2, u3, u4, u5, u6, u7, u8, u9, ua, ub⟩ => fact (jQ s es A yf yt) • dL y (.cells (.pointer (some ⟨h, 0, none⟩) :: .pointer (some ⟨pb, 0, none⟩) :: .pointer (some ⟨pk, 0, none⟩) :: wv :: nv :: .int .i64 s.c.place :: .string (jl s.hl s.c.tx s.c.place) :: pv :: gv :: .int .i64 s.c.mode :: .bool s.c.over :: .int .i64 s.c.res :: .bool s.c.run :: u0 :: u1 :: u2 :: u3 :: u4 :: u5 :: u6 :: u7 :: u8 :: u9 :: ua :: ub :: .bool s.given :: .bool s.minus :: .int .i64 s.arg :: .int .i64 s.zu :: .int .i64 s.TY :: .int .i64 s.Ua :: .int .i64 s.qO :: .bool s.inn :: .int .i64 s.cls :: .int .i64 yf :: .int .i64 yt :: .bool s.argues :: .bool s.killed :: .bool s.lI :: nw :: .bool s.whole :: .bool ch :: []).toArray 174 (0, 0)) • nS pb s.c.L s.c.pt s.c.mark • mg pk s.c.E s.c.at_ • uD 1 wv (s.hl.length + 1) (strs (nP s.hl)) • Row 9 1 nv (s.hl.length + 1) (strs (uw s.hl s.c.tx)) • mP .i64 pv (A.map (·.1)) • uD 1 gv A.length (A.map (·.2.1)) • qj A • iY h s.hl s.base s.most • Row 189 3 nw s.put.length (es.flatMap dQ.enc) • kK es • AZ s.inn s.hl s.was [u0, u1, u2, u3, u4, u5, u6, u7, u8, u9, ua, ub]
section
variable {w0 w : World} {F : HP} {y : Nat} {s : dG}
theorem V.Oi (H : V w0 w (oJ y s • F)) : ∃ h pb pk wv nv pv gv A nw es yf yt ch u0 u1 u2 u3 u4 u5 u6 u7 u8 u9 ua ub, jQ s es A yf yt ∧ es.length = s.put.length ∧ V w0 w (dL y (.cells (.pointer (some ⟨h, 0, none⟩) :: .pointer (some ⟨pb, 0, none⟩) :: .pointer (some ⟨pk, 0, none⟩) :: wv :: nv :: .int .i64 s.c.place :: .string (jl s.hl s.c.tx s.c.place) :: pv :: gv :: .int .i64 s.c.mode :: .bool s.c.over :: .int .i64 s.c.res :: .bool s.c.run :: u0 :: u1 :: u2 :: u3 :: u4 :: u5 :: u6 :: u7 :: u8 :: u9 :: ua :: ub :: .bool s.given :: .bool s.minus :: .int .i64 s.arg :: .int .i64 s.zu :: .int .i64 s.TY :: .int .i64 s.Ua :: .int .i64 s.qO :: .bool s.inn :: .int .i64 s.cls :: .int .i64 yf :: .int .i64 yt :: .bool s.argues :: .bool s.killed :: .bool s.lI :: nw :: .bool s.whole :: .bool ch :: []).toArray 174 (0, 0)) • nS pb s.c.L s.c.pt s.c.mark • mg pk s.c.E s.c.at_ • uD 1 wv (s.hl.length + 1) (strs (nP s.hl)) • Row 9 1 nv (s.hl.length + 1) (strs (uw s.hl s.c.tx)) • mP .i64 pv (A.map (·.1)) • uD 1 gv A.length (A.map (·.2.1)) • qj A • iY h s.hl s.base s.most • Row 189 3 nw s.put.length (es.flatMap dQ.enc) • kK es • AZ s.inn s.hl s.was [u0, u1, u2, u3, u4, u5, u6, u7, u8, u9, ua, ub] • F) := by
  obtain ⟨⟨h, pb, pk, wv, nv, pv, gv, A, nw, es, yf, yt, ch, u0, u1, u2, u3, u4, u5, u6, u7, u8, u9, ua, ub⟩, H⟩ := H.lQ
  obtain ⟨h1, H⟩ := H.flat.fact
  refine ⟨h, pb, pk, wv, nv, pv, gv, A, nw, es, yf, yt, ch, u0, u1, u2, u3, u4, u5, u6, u7, u8, u9, ua, ub, h1, ?_, ?_⟩
  · rw [← h1.says]; simp
  · exact H.of_eq (by simp only [bW])
theorem V.rM {h pb pk : Nat} {wv nv pv gv : Value} {A : List LE} {nw : Value} {es : List dQ} {yf yt : Int} {ch : Bool} {u0 u1 u2 u3 u4 u5 u6 u7 u8 u9 ua ub : Value} (h1 : jQ s es A yf yt) (H : V w0 w (dL y (.cells (.pointer (some ⟨h, 0, none⟩) :: .pointer (some ⟨pb, 0, none⟩) :: .pointer (some ⟨pk, 0, none⟩) :: wv :: nv :: .int .i64 s.c.place :: .string (jl s.hl s.c.tx s.c.place) :: pv :: gv :: .int .i64 s.c.mode :: .bool s.c.over :: .int .i64 s.c.res :: .bool s.c.run :: u0 :: u1 :: u2 :: u3 :: u4 :: u5 :: u6 :: u7 :: u8 :: u9 :: ua :: ub :: .bool s.given :: .bool s.minus :: .int .i64 s.arg :: .int .i64 s.zu :: .int .i64 s.TY :: .int .i64 s.Ua :: .int .i64 s.qO :: .bool s.inn :: .int .i64 s.cls :: .int .i64 yf :: .int .i64 yt :: .bool s.argues :: .bool s.killed :: .bool s.lI :: nw :: .bool s.whole :: .bool ch :: []).toArray 174 (0, 0)) • nS pb s.c.L s.c.pt s.c.mark • mg pk s.c.E s.c.at_ • uD 1 wv (s.hl.length + 1) (strs (nP s.hl)) • Row 9 1 nv (s.hl.length + 1) (strs (uw s.hl s.c.tx)) • mP .i64 pv (A.map (·.1)) • uD 1 gv A.length (A.map (·.2.1)) • qj A • iY h s.hl s.base s.most • Row 189 3 nw s.put.length (es.flatMap dQ.enc) • kK es • AZ s.inn s.hl s.was [u0, u1, u2, u3, u4, u5, u6, u7, u8, u9, ua, ub] • F)) : V w0 w (oJ y s • F) :=
  V.iy ⟨h, pb, pk, wv, nv, pv, gv, A, nw, es, yf, yt, ch, u0, u1, u2, u3, u4, u5, u6, u7, u8, u9, ua, ub⟩ (V.deep (V.kD h1 (H.of_eq (by simp only [bW]))))
theorem TI {inn : Bool} {hl : List pR} {c : mD} {u : List Value} (H : V w0 w (AZ inn hl c u • F)) : (u.all fun x => x.oneCell') = true := by
  unfold AZ at H
  cases inn with
  | true =>
    rw [if_pos rfl] at H
    obtain ⟨x, H⟩ := H.lQ
    exact H.flat.fact.1.2.2.2
  | false =>
    rw [if_neg (by decide)] at H
    exact H.fact.1
theorem V.DI {hl : List pR} {c : mD} {u : List Value} (H : V w0 w F) (hu : (u.all fun x => x.oneCell') = true) : V w0 w (AZ false hl c u • F) := by
  unfold AZ
  rw [if_neg (by decide)]
  exact H.kD hu
theorem V.ad9 {hl : List pR} {c : mD} {u : List Value} (H : V w0 w (AZ true hl c u • F)) : ∃ pb pk wv nv pv gv A, u = Ep pb pk wv nv pv gv hl c ∧ Fa A = c.un ∧ uO hl A ∧ (u.all fun x => x.oneCell') = true ∧
    V w0 w (nS pb c.L c.pt c.mark • mg pk c.E c.at_ • uD 1 wv (hl.length + 1) (strs (nP hl)) • Row 9 1 nv (hl.length + 1) (strs (uw hl c.tx)) • mP .i64 pv (A.map (·.1)) • uD 1 gv A.length (A.map (·.2.1)) • qj A • F) := by
  unfold AZ at H
  rw [if_pos rfl] at H
  obtain ⟨⟨pb, pk, wv, nv, pv, gv, A⟩, H⟩ := H.lQ
  obtain ⟨⟨h1, h2, h3, h4⟩, H⟩ := H.flat.fact
  exact ⟨pb, pk, wv, nv, pv, gv, A, h1, h2, h3, h4, H.of_eq (by simp only [bW])⟩
theorem V.YA {hl : List pR} {c : mD} {pb pk : Nat} {wv nv pv gv : Value} {A : List LE} (h2 : Fa A = c.un) (h3 : uO hl A) (H : V w0 w (nS pb c.L c.pt c.mark • mg pk c.E c.at_ • uD 1 wv (hl.length + 1) (strs (nP hl)) • Row 9 1 nv (hl.length + 1) (strs (uw hl c.tx)) • mP .i64 pv (A.map (·.1)) • uD 1 gv A.length (A.map (·.2.1)) • qj A • F)) : V w0 w (AZ true hl c (Ep pb pk wv nv pv gv hl c) • F) := by
  have o1 := (H.f3).oH.one
  have o2 := (H.f4).aS.one
  have o3 := (H.f5).jy.one
  have o4 := (H.f6).oH.one
  have hu : ((Ep pb pk wv nv pv gv hl c).all fun x => x.oneCell') = true := by
    unfold Ep
    simp only [List.all_cons, List.all_nil, o1, o2, o3, o4, Bool.and_true, Bool.true_and]
    rfl
  unfold AZ
  rw [if_pos rfl]
  exact V.iy ⟨pb, pk, wv, nv, pv, gv, A⟩ (V.deep (V.kD ⟨rfl, h2, h3, hu⟩ (H.of_eq (by simp only [bW]))))
end
end Go.Proofs.YtpdeedplgmbopaaGreatDoor
end
section
namespace Go.Proofs.YtpdeedplgmbopaaGreatDoor
open Go.RowKit
open _root_.Go.Proofs.Tryz
def dG.qK (s : dG) (l : List Int) : Int := if s.inn then 1 else if 1024 < l.length then 3 else 0
def dG.Ce (s : dG) (hl : List pR) (base most : Int) (l : List Int) : dG := if s.qK l = 0 then s.start hl base most l else s
theorem Oj {s : dG} (h : lT s) (hi : s.inn = false) (hl : List pR) (base most : Int) (l : List Int) : lT (s.start hl base most l) := by
  obtain ⟨h1, h2, h3, h4, h5, h6⟩ := h
  refine ⟨NI _ _ _ _ _, fun h => absurd (show s.inn = true from h) (by rw [hi]; decide), ⟨by show (-1 : Int) ≤ -1; decide, by show (-1 : Int) ≤ 1000000; decide⟩, h4, ?_, by simp [dG.start, mD.fresh]⟩
  show iE [] s.put ≤ 16384
  unfold iE at *; simp at *; omega
section
variable {w0 w : World} {F : HP} {e p h pr : Nat} {s : dG} {hl : List pR} {base most m : Int} {v : Value} {l : List Int}
theorem Lh (H : V w0 w (gB e s • gK h hl base most • F)) (hr : jq w0 F .i32 v l) : gJ prog 59 #[.pointer (some ⟨e, 0, none⟩), .pointer (some ⟨h, 0, none⟩), v] w fun v' w' =>
  v' = .int .i64 (s.qK l) ∧ V w0 w' (gB e (s.Ce hl base most l) • gK h hl base most • F) := by
 unfold dG.Ce
 refine CQ func59 ntmps59 ?_
 refine jr O (aP (aY (bT O (dY O func65 (oZ H) ?_))))
 rintro _ _ ⟨rfl, rfl⟩
 refine bP O (bC (bP O (bC (dY O func109 (rG H.f2) ?_))))
 rintro _ w2 ⟨q2, rfl, H2⟩
 refine bC (aV (iR jM O O) (iL O O (gI O (Jp O (fun h1 => ?_)))))
 (try simp only [Z] at h1)
 refine aP ?_
 have OC := H2.right
 obtain ⟨xQ, xR, xU, xW, xX, xY, xZ, yc, uN, su, sD, sF, sG, sH, sJ, sK, sN, sO, sQ, sS, iw, dF, lu, iI⟩ := (OC.f2).Gu
 refine aC (nD O O (bD 16 ah O aO O (fZ bK O (iI).get.2 O (gI O (bI O (fun h2 => ?_) (fun h2 => ?_))))))
 ·(try simp only [Z] at h2)
  have hin := h2
  have hE : s.qK l = 1 := by unfold dG.qK; rw [if_pos hin]
  refine jL O (aT (aF (dH results59 O ?_)))
  have XT := iI.f11.f11.f11.f11.f11.f11.f11.f11.f11.f11.f11
  have XU := V.iF (s := s) iw dF XT
  exact ⟨by rw [hE], by rw [if_neg (by rw [hE]; decide)]; exact XU.f2.f2⟩
 ·(try simp only [Z] at h2)
  have hin : s.inn = false := by simpa using h2
  refine bT O (aV (iQ (hr _ (iI.right.right.right.right.right.right.right.right.right.right.right.right)) ay O) (aV (iV O O) (gI O (bI O (fun h3 => ?_) (fun h3 => ?_)))))
  ·(try simp only [Z] at h3)
   have hbig := h3
   have hE : s.qK l = 3 := by unfold dG.qK; rw [if_neg (by simp [hin]), if_pos (by omega)]
   refine jL O (aT (aF (dH results59 O ?_)))
   have Ho9 := iI.f11.f11.f11.f11.f11.f11.f11.f11.f11.f11.f11
   have aaL := V.iF (s := s) iw dF Ho9
   exact ⟨by rw [hE], by rw [if_neg (by rw [hE]; decide)]; exact aaL.f2.f2⟩
  ·(try simp only [Z] at h3)
   have hE : s.qK l = 0 := by unfold dG.qK; rw [if_neg (by simp [hin]), if_neg (by have h9 := h3; omega)]
   have hsh : l.length ≤ 1024 := by have h9 := h3; omega
   refine bZ (aJ (aX (bT O (jG O O (dY O func111 (Bq (E := s.c.E) (a := s.c.at_) iI.f2.right.f3.right.f3.right.f3.right.f3.right.f6.f6.f6.f6.f6.f7.f7 (fun W HW => hr W HW.right.right.right.right.right) hsh) ?_)))))
   rintro _ EH ⟨qb, qw, qt, qm, qh, rF⟩
   refine iJ (jL O (dH results59 O ?_))
   exact ⟨by rw [hE], by rw [if_pos hE]; exact V.iF (s := s.start hl base most l) (Oj iw hin _ _ _ _) dF rF.f7.f12.f12.f12.f12.f11.f11.f11.f11.f12.f12.f12⟩
end
end Go.Proofs.YtpdeedplgmbopaaGreatDoor
end
section
namespace Go.Proofs.YtpdeedplgmbopaaGreatDoor
open Go.RowKit
section
variable {s : dG} {es : List dQ} {A : List LE} {yf yt : Int}
theorem jQ.yZ (h : jQ s es A yf yt) (L : List Int) (p m : Int) : jQ (s.yZ L p m) es A yf yt := ⟨JF h.ok _ _ _, h.rx, h.says, h.Fa, h.placed, h.WT⟩
theorem jQ.begin (h : jQ s es A yf yt) (hi : s.inn = false) : jQ s.jZ [] A 0 0 := by
  have h1 := NJ h.ok hi
  have h0 := h.rx.1
  have hl := h.Fa
  have hq := h.placed
  rw [vN hi] at h1 ⊢
  exact ⟨h1, ⟨h0, fun _ => ⟨h0, rfl, fun _ => ⟨rfl, rfl⟩⟩, fun _ h2 => absurd h2 (by show ¬ (0 : Int) = 2; decide)⟩, rfl, hl, hq, fun _ h2 => absurd h2 (by show ¬ false = true; decide)⟩
theorem JO {c : mD} (h : DF c) {k : Int} {G : List (List iT)} (h1 : iE G [] ≤ 16384) (h2 : ∀ g ∈ G, g ≠ []) : DF { c with un := wU c.un k G } := by
  refine ⟨fun j => ?_, h.2⟩
  show iE (wU c.un k G j) [] ≤ 16384 ∧ ∀ g ∈ wU c.un k G j, g ≠ []
  by_cases hj : j = k
  · subst hj; rw [nO]; exact ⟨h1, h2⟩
  · rw [tX _ _ hj]; exact h.1 j
theorem jQ.none (h : jQ s es A yf yt) {x : iT} (hx : x.2.1.length + x.2.2.length = 0) : jQ (s.QS x) es A yf yt := by rw [VX hx]; exact h
theorem DJ (h : lT s) (hx : DF s.c) (hp : s.put ≠ []) (on : Bool) : iE (s.lg on) [] ≤ 16384 ∧ (∀ g ∈ s.lg on, g ≠ []) ∧ ∀ g ∈ s.lg on, ∀ e ∈ g, xO e := by
  obtain ⟨h1, h2, h3, h4, h5, h6⟩ := h
  have hs := og s.here s.put
  have hne := (hx.1 s.c.place).2
  have h6' : ∀ g ∈ s.here, ∀ e ∈ g, xO e := h6 s.c.place
  have key : ∀ (G : List (List iT)) (g : List iT), iE (G ++ [g]) [] ≤ iE s.here s.put → (∀ x ∈ G, x ∈ s.here) → (∀ e ∈ g, xO e) → g ≠ [] →
      iE (G ++ [g]) [] ≤ 16384 ∧ (∀ x ∈ G ++ [g], x ≠ []) ∧ ∀ x ∈ G ++ [g], ∀ e ∈ x, xO e := by
    intro G g a1 a2 a3 a4
    refine ⟨by omega, fun x hx => ?_, fun x hx => ?_⟩
    · rcases List.mem_append.1 hx with hx | hx
      · exact hne x (a2 x hx)
      · rw [List.mem_singleton.1 hx]; exact a4
    · rcases List.mem_append.1 hx with hx | hx
      · exact h6' x (a2 x hx)
      · rw [List.mem_singleton.1 hx]; exact a3
  unfold dG.lg
  rw [if_neg hp]
  cases on with
  | false =>
    rw [if_neg (by decide)]
    exact key s.here s.put (by rw [Dw]; omega) (fun x hx => hx) h4 hp
  | true =>
    rw [if_pos rfl]
    by_cases h0 : s.here = []
    · rw [h0]
      exact key [] s.put (by rw [Dw, VW]; omega) (fun x hx => by cases hx) h4 hp
    · rw [List.getLast?_eq_some_getLast h0]
      have hd := Dv h0
      have h2 : s.here.getLastD [] = s.here.getLast h0 := by rw [List.getLastD_eq_getLast?, List.getLast?_eq_some_getLast h0]; rfl
      rw [h2] at hd
      refine key s.here.dropLast (s.here.getLast h0 ++ s.put) ?_ (fun x hx => List.dropLast_subset _ hx) (fun e he => ?_) (fun he => hp (List.append_eq_nil_iff.1 he).2)
      · rw [Dw, List.length_append, hs]
        unfold iE
        simp only [List.length_nil, Nat.add_zero]
        omega
      · rcases List.mem_append.1 he with he | he
        · exact h6' _ (List.getLast_mem h0) e he
        · exact h4 e he
theorem TJ (h : lT s) (hx : DF s.c) (on : Bool) : lT (s.gG on) := by
  by_cases hp : s.put = []
  · rw [y7 hp]; exact h
  · obtain ⟨f1, f2, f3⟩ := DJ h hx hp on
    rw [lN hp]
    obtain ⟨h1, h2, h3, h4, h5, h6⟩ := h
    refine ⟨h1, h2, h3, by simp, ?_, fun k g hg => ?_⟩
    · show iE (wU s.c.un s.c.place (s.lg on) s.c.place) [] ≤ 16384
      rw [nO]; exact f1
    · have hg' : g ∈ wU s.c.un s.c.place (s.lg on) k := hg
      by_cases hk : k = s.c.place
      · subst hk; rw [nO] at hg'; exact f3 g hg'
      · rw [tX _ _ hk] at hg'; exact h6 k g hg'
theorem TK (h : lT s) (hx : RX s) (on : Bool) : RX (s.gG on) := by
  by_cases hp : s.put = []
  · rw [y7 hp]; exact hx
  · obtain ⟨f1, f2, f3⟩ := DJ h hx.1 hp on
    rw [lN hp]
    exact ⟨JO hx.1 f1 f2, hx.2.1, hx.2.2⟩
theorem jQ.sub (h : jQ s es A yf yt) {G : List (List iT)} {A' : List LE} (h1 : iE G s.put ≤ iE s.here s.put) (h2 : ∀ g ∈ G, g ∈ s.here) (hA : _root_.Go.Proofs.YtpdeedplgmbopaaGreatDoor.Fa A' = wU s.c.un s.c.place G) (hP : uO s.hl A') : jQ (s.wE G) es A' yf yt := by
  have ht := (h.rx.1.1 s.c.place).1
  have he : iE s.here s.put = iE s.here [] + s.put.length := og _ _
  have hg : iE G s.put = iE G [] + s.put.length := og _ _
  have hh : iE s.here [] ≤ 16384 := ht
  exact ⟨aaF h.ok h1 h2, ⟨JO h.rx.1 (by omega) (fun g hg => (h.rx.1.1 s.c.place).2 g (h2 g hg)), h.rx.2.1, h.rx.2.2⟩, h.says, hA, hP, h.WT⟩
theorem TL (h : DF s.c) : s.here.length ≤ 16384 := by
  have h1 := (h.1 s.c.place).1
  have h2 := (h.1 s.c.place).2
  have key : ∀ G : List (List iT), (∀ g ∈ G, g ≠ []) → G.length ≤ (G.map List.length).sum := by
    intro G hG
    induction G with
    | nil => simp
    | cons g r ih =>
      have := ih (fun x hx => hG x (List.mem_cons_of_mem _ hx))
      have h3 : 0 < g.length := List.length_pos_iff.2 (hG g (List.mem_cons_self ..))
      simp only [List.length_cons, List.map_cons, List.sum_cons]
      omega
  have h4 := key (s.c.un s.c.place) h2
  unfold iE at h1
  simp only [List.length_nil, Nat.add_zero] at h1
  exact Nat.le_trans h4 h1
theorem Qw {hl : List pR} {A : List LE} {k : Int} {u : Value} {gs : List (Value × List dQ)} (h : uO hl A) (hk : 0 ≤ k ∧ k ≤ hl.length) : uO hl (yK A k u gs) := Yy h hk
end
end Go.Proofs.YtpdeedplgmbopaaGreatDoor
end
section
namespace Go.Proofs.YtpdeedplgmbopaaGreatDoor
open Go.RowKit
open _root_.Go.Proofs.Tryz
theorem Lj {A : List LE} {i : Nat} (h : i < A.length) : (A.map (·.1)).getD i 0 = (A.getD i default).1 := by simp [List.getD_eq_getElem?_getD, h]
theorem Ry {A : List LE} {i : Nat} (h : i < A.length) : (A.map (·.2.1)).getD i undef = (A.getD i default).2.1 := by simp [List.getD_eq_getElem?_getD, h]
theorem JQ {A : List LE} {p : LE → Bool} {i : Nat} (h : i < A.length) : (A.take (i + 1)).filter p = (A.take i).filter p ++ (if p (A.getD i default) then [A.getD i default] else []) := by
  rw [List.take_succ_eq_append_getElem h, List.filter_append, List.getD_eq_getElem?_getD, List.getElem?_eq_getElem h]
  simp only [Option.getD_some, List.filter_cons, List.filter_nil]
section
variable {w0 w : World} {F : HP} {y : Nat} {k : Int} {pv gv u : Value} {A : List LE} {gs : List (Value × List dQ)}
theorem Qx {x0 x1 x2 x3 x4 x5 x6 x9 x10 x11 x12 uS x14 x15 x16 x17 x18 x19 x20 x21 vJ x23 x24 x25 wz x27 x28 x29 x30 x31 x32 wZ x34 LW LX LY x38 x39 x40 x41 : Value} (H : V w0 w (dL y (.cells (x0 :: x1 :: x2 :: x3 :: x4 :: x5 :: x6 :: pv :: gv :: x9 :: x10 :: x11 :: x12 :: uS :: x14 :: x15 :: x16 :: x17 :: x18 :: x19 :: x20 :: x21 :: vJ :: x23 :: x24 :: x25 :: wz :: x27 :: x28 :: x29 :: x30 :: x31 :: x32 :: wZ :: x34 :: LW :: LX :: LY :: x38 :: x39 :: x40 :: x41 :: []).toArray 174 (0, 0)) • mP .i64 pv (A.map (·.1)) • uD 1 gv A.length (A.map (·.2.1)) • qj A • F)) : gJ prog 155 #[.pointer (some ⟨y, 7, none⟩), .int .i64 k] w fun v' w' => ∃ gs, Ag gs = Fa A k ∧
  V w0 w' (uD 1 v' gs.length (gs.map (·.1)) • nK gs • dL y (.cells (x0 :: x1 :: x2 :: x3 :: x4 :: x5 :: x6 :: pv :: gv :: x9 :: x10 :: x11 :: x12 :: uS :: x14 :: x15 :: x16 :: x17 :: x18 :: x19 :: x20 :: x21 :: vJ :: x23 :: x24 :: x25 :: wz :: x27 :: x28 :: x29 :: x30 :: x31 :: x32 :: wZ :: x34 :: LW :: LX :: LY :: x38 :: x39 :: x40 :: x41 :: []).toArray 174 (0, 0)) • mP .i64 pv (A.map (·.1)) • uD 1 gv A.length (A.map (·.2.1)) • qj A • F) := by
 have hpl : (A.map (·.1)).length = A.length := List.length_map _
 have hcap : (A.length : Int) ≤ 9223372036854775807 := by obtain ⟨_, a, c, _, h2, h3, _⟩ := (H.f3).oH; omega
 refine nT func155 ntmps155 ?_
 refine jr O (aP (jr O (aY ?_)))
 refine fF [(0, _), (1, _)] (fun (i : Nat) => [(5, .int .i64 (i : Int))]) (fun (i : Nat) W => (i ≤ A.length ∧ ∀ j, j < i → (A.getD j default).1 ≠ k) ∧ V w0 W (dL y (.cells (x0 :: x1 :: x2 :: x3 :: x4 :: x5 :: x6 :: pv :: gv :: x9 :: x10 :: x11 :: x12 :: uS :: x14 :: x15 :: x16 :: x17 :: x18 :: x19 :: x20 :: x21 :: vJ :: x23 :: x24 :: x25 :: wz :: x27 :: x28 :: x29 :: x30 :: x31 :: x32 :: wZ :: x34 :: LW :: LX :: LY :: x38 :: x39 :: x40 :: x41 :: []).toArray 174 (0, 0)) • mP .i64 pv (A.map (·.1)) • uD 1 gv A.length (A.map (·.2.1)) • qj A • F)) (fun (i : Nat) => A.length - i) (0) qG lG ⟨⟨by omega, fun j hj => by omega⟩, H.f4.f4.f4.f4⟩ ?_
 rintro i w1 ⟨⟨hi, hne⟩, HL⟩
 dsimp only [List.cons_append, List.nil_append]
 refine aP (bT O (nD O O (bD 0 jo O sizeOf167 O (fZ gy O (HL).get.2 O (aV (iQ ((HL.f2).jy) gy O) (aV (gY O O) (je O (fun h1 => ?_) (fun h1 => ?_))))))))
 ·(try simp only [Z] at h1)
  refine gq (aP (aY (aP ?_)))
  have hil : i < A.length := by omega
  refine aC (nD O O (bD 0 jo O sizeOf167 O (fZ gy O (HL).get.2 O (bP O ?_))))
  obtain ⟨bpv, opv, cpv, epv⟩ := fB.pJ ((HL.f2).jy) (by omega)
  cases epv
  refine aV (dD gy aj O O (by omega)) ?_
  refine aV (eG (bY aK O) O (by first | exact fB.kX ((HL.f2).jy) (by omega) | exact fB.uQ ((HL.f2).jy) (by omega) | exact fB.uG ((HL.f2).jy) (by omega))) ?_
  rw [Lj hil]
  refine bP O (aV (dR O O) (je O (fun h2 => ?_) (fun h2 => ?_)))
  ·(try simp only [Z] at h2)
   have hek : (A.getD i default).1 = k := h2
   refine bT O (dJ O (bD 1 jo O sizeOf168 O (fZ kR O (HL).get.2 O (bP O ?_))))
   obtain ⟨bgv, ogv, cgv, egv⟩ := Rd.pJ ((HL.f3).oH) (by omega)
   cases egv
   refine aV (dD kR eU O O (by omega)) ?_
   refine aV (eG (bY bg O) O (by first | exact Rd.kX ((HL.f3).oH) (by omega) | exact Rd.uQ ((HL.f3).oH) (by omega) | exact Rd.uG ((HL.f3).oH) (by omega))) ?_
   rw [Ry hil]
   have hat := aaK hil hne hek
   obtain ⟨xp, xv, xgs, hx⟩ : ∃ xp xv xgs, A.getD i default = (xp, xv, xgs) := ⟨_, _, _, rfl⟩
   rw [hx] at hat ⊢
   dsimp only at hat ⊢
   have Z9 := HL.f4
   have XY := Z9.Rx hil hx
   refine fC O (aT (aF (aF (aT (aF (dH results155 O ?_))))))
   exact ⟨xgs, hat.symm, XY.f3.f6.f6.f6.f6.f6⟩
  ·(try simp only [Z] at h2)
   have hni : (A.getD i default).1 ≠ k := h2
   refine bZ (aJ (aX (aC (bP O (aV (fQ O O (by omega)) (fV O (bM ?_)))))))
   refine dK (i + 1) ?_ ?_ ?_ ?_
   ·exact lG
   ·exact qG
   ·(try dsimp only)
    first | done | exact ⟨⟨by omega, fun j hj => (show j < i ∨ j = i from by omega).elim (hne j) (fun c => c ▸ hni)⟩, HL.f4.f4.f4.f4⟩
   ·(try dsimp only); omega
 ·(try simp only [Z] at h1)
  refine dB (aI (aI (bf (aX (aP ?_)))))
  obtain rfl : i = A.length := by omega
  refine aC (fC O (dH results155 O ?_))
  exact ⟨[], by rw [WH hne]; rfl, ((HL.f4.f4.f4.f4).Yz none).Rw⟩
theorem Ol {x0 x1 x2 x3 x4 x5 x6 x9 x10 x11 x12 uS x14 x15 x16 x17 x18 x19 x20 x21 vJ x23 x24 x25 wz x27 x28 x29 x30 x31 x32 wZ x34 LW LX LY x38 x39 x40 x41 : Value} (H : V w0 w (dL y (.cells (x0 :: x1 :: x2 :: x3 :: x4 :: x5 :: x6 :: pv :: gv :: x9 :: x10 :: x11 :: x12 :: uS :: x14 :: x15 :: x16 :: x17 :: x18 :: x19 :: x20 :: x21 :: vJ :: x23 :: x24 :: x25 :: wz :: x27 :: x28 :: x29 :: x30 :: x31 :: x32 :: wZ :: x34 :: LW :: LX :: LY :: x38 :: x39 :: x40 :: x41 :: []).toArray 174 (0, 0)) • mP .i64 pv (A.map (·.1)) • uD 1 gv A.length (A.map (·.2.1)) • qj A • uD 1 u gs.length (gs.map (·.1)) • nK gs • F)) (hA : A.length ≤ 4097) : gJ prog 156 #[.pointer (some ⟨y, 7, none⟩), .int .i64 k, u] w fun _ w' => ∃ pv' gv',
  V w0 w' (dL y (.cells (x0 :: x1 :: x2 :: x3 :: x4 :: x5 :: x6 :: pv' :: gv' :: x9 :: x10 :: x11 :: x12 :: uS :: x14 :: x15 :: x16 :: x17 :: x18 :: x19 :: x20 :: x21 :: vJ :: x23 :: x24 :: x25 :: wz :: x27 :: x28 :: x29 :: x30 :: x31 :: x32 :: wZ :: x34 :: LW :: LX :: LY :: x38 :: x39 :: x40 :: x41 :: []).toArray 174 (0, 0)) • mP .i64 pv' ((yK A k u gs).map (·.1)) • uD 1 gv' (yK A k u gs).length ((yK A k u gs).map (·.2.1)) • qj (yK A k u gs) • F) := by
 have hpl : (A.map (·.1)).length = A.length := List.length_map _
 have hfl : ∀ i, ((A.take i).filter fun x => x.1 != k).length ≤ A.length := fun i => Nat.le_trans (List.length_filter_le _ _) (by rw [List.length_take]; omega)
 have acC : ∀ i, (((A.take i).filter fun x => x.1 != k).map (·.1)).length = ((A.take i).filter fun x => x.1 != k).length := fun i => List.length_map _
 refine CQ func156 ntmps156 ?_
 refine jr O (jr O (aP (jr O (aY ?_))))
 refine fF [(0, _), (1, _), (2, _)] (fun (⟨i, u1, u2⟩ : Nat × Value × Value) => [(6, u1), (7, u2), (8, .int .i64 (i : Int))]) (fun (⟨i, u1, u2⟩ : Nat × Value × Value) W => i ≤ A.length ∧ V w0 W (kW 3 .i64 u1 (((A.take i).filter fun x => x.1 != k).map (·.1)) • Row 226 1 u2 ((A.take i).filter fun x => x.1 != k).length (((A.take i).filter fun x => x.1 != k).map (·.2.1)) • dL y (.cells (x0 :: x1 :: x2 :: x3 :: x4 :: x5 :: x6 :: pv :: gv :: x9 :: x10 :: x11 :: x12 :: uS :: x14 :: x15 :: x16 :: x17 :: x18 :: x19 :: x20 :: x21 :: vJ :: x23 :: x24 :: x25 :: wz :: x27 :: x28 :: x29 :: x30 :: x31 :: x32 :: wZ :: x34 :: LW :: LX :: LY :: x38 :: x39 :: x40 :: x41 :: []).toArray 174 (0, 0)) • mP .i64 pv (A.map (·.1)) • uD 1 gv A.length (A.map (·.2.1)) • qj A • uD 1 u gs.length (gs.map (·.1)) • nK gs • F)) (fun (⟨i, u1, u2⟩ : Nat × Value × Value) => A.length - i) ((0, .slice none 0 0, .slice none 0 0)) uH uH ⟨by omega, ((H.f6.f6.f6.f6.f6.f6).iO (e := 226) (sz := 1) none).iO none⟩ ?_
 rintro ⟨i, u1, u2⟩ w1 ⟨hi, HL⟩
 dsimp only [List.cons_append, List.nil_append]
 refine aP (bT O (nD O O (bD 0 jo O sizeOf167 O (fZ gy O (HL.f3).get.2 O (aV (iQ ((HL.f4).jy) gy O) (aV (gY O O) (je O (fun h1 => ?_) (fun h1 => ?_))))))))
 ·(try simp only [Z] at h1)
  refine gq (aP (aY (aP ?_)))
  have hil : i < A.length := by omega
  have hfi := hfl i
  have acD := acC i
  obtain ⟨xp, xv, xgs, hx⟩ : ∃ xp xv xgs, A.getD i default = (xp, xv, xgs) := ⟨_, _, _, rfl⟩
  refine aC (nD O O (bD 0 jo O sizeOf167 O (fZ gy O (HL.f3).get.2 O (bP O ?_))))
  obtain ⟨bpv, opv, cpv, epv⟩ := fB.pJ ((HL.f4).jy) (by omega)
  cases epv
  refine aV (dD gy aj O O (by omega)) ?_
  refine aV (eG (bY aK O) O (by first | exact fB.kX ((HL.f4).jy) (by omega) | exact fB.uQ ((HL.f4).jy) (by omega) | exact fB.uG ((HL.f4).jy) (by omega))) ?_
  rw [Lj hil, hx]
  dsimp only
  refine bP O (aV (iU O O) (je O (fun h2 => ?_) (fun h2 => ?_)))
  ·(try simp only [Z] at h2)
   have hne : ¬ xp = k := h2
   refine bT O (nD O O (bD 0 jo O sizeOf167 O (fZ gy O (HL.f3).get.2 O (bP O (aV (dD gy aj O O (by omega)) ?_)))))
   refine aV (eG (bY aK O) O (by first | exact fB.kX ((HL.f4).jy) (by omega) | exact fB.uQ ((HL.f4).jy) (by omega) | exact fB.uG ((HL.f4).jy) (by omega))) ?_
   rw [Lj hil, hx]
   dsimp only
   refine jv (wo (k := .i64) (l := [_]) HL gy aj zeroValue3 O O O (by decide)) ?_
   rintro l2 w2 H2
   refine jv (lK H2.f2 ((H2).aS) gy acE O O (by first | omega | (simp only [List.length_append, List.length_nil, List.length_cons]; omega) | (simp; omega)) (by first | omega | (simp only [List.length_append, List.length_nil, List.length_cons]; omega) | (simp; omega))) ?_
   rintro l3 w3 H3
   try simp only [List.nil_append] at H3
   refine gI O (aC (jG O O (dJ O (bD 1 jo O sizeOf168 O (fZ kR O (H3.f4).get.2 O (bP O ?_))))))
   obtain ⟨bgv, ogv, cgv, egv⟩ := Rd.pJ ((H3.f6).oH) (by omega)
   cases egv
   refine aV (dD kR eU O O (by omega)) ?_
   refine aV (eG (bY bg O) O (by first | exact Rd.kX ((H3.f6).oH) (by omega) | exact Rd.uQ ((H3.f6).oH) (by omega) | exact Rd.uG ((H3.f6).oH) (by omega))) ?_
   rw [Ry hil, hx]
   dsimp only
   have O7 := H3.f7
   have OB := O7.Rx hil hx
   refine jv (jR (vs := [_]) OB kR eU zeroValue226 O O O (by decide) (aW (by first | rfl | exact Rd.one ((OB).oH)) bF)) ?_
   rintro l6 w6 H6
   refine jv (fU H6.f7 kR WU O O O ((H6).aS) (aW (by first | rfl | exact Rd.one ((H6.f2).oH)) bF) (by omega) (by omega)) ?_
   rintro l7 w7 H7
   have Hd8 := H7.f2.right
   refine fV O (bM (aJ (aX (aC (bP O (aV (fQ O O (by omega)) (fV O (bM ?_))))))))
   refine dK ((i + 1, l3, l7)) ?_ ?_ ?_ ?_
   ·exact uH
   ·exact uH
   ·(try dsimp only)
    first | done | exact ⟨by omega, by rw [JQ hil, hx]; dsimp only; first | (rw [if_pos (by simpa using hne)]; simp only [List.map_append, List.length_append]; exact Hd8.f2.right.f2.right.f4.right.f8.f8.f4.f8.f8.f8.f7.f8) | (rw [if_neg (by simpa using heq), List.append_nil]; exact Hd8.f2.right.f2.right.f4.right.f8.f8.f4.f8.f8.f8.f7.f8)⟩
   ·(try dsimp only); omega
  ·(try simp only [Z] at h2)
   have heq : xp = k := by have h9 := h2; omega
   refine bZ (aJ (aX (aC (bP O (aV (fQ O O (by omega)) (fV O (bM ?_)))))))
   refine dK ((i + 1, u1, u2)) ?_ ?_ ?_ ?_
   ·exact uH
   ·exact uH
   ·(try dsimp only)
    first | done | exact ⟨by omega, by rw [JQ hil, hx]; dsimp only; first | (rw [if_pos (by simpa using hne)]; simp only [List.map_append, List.length_append]; exact HL.f8.f8.f8.f8.f8.f8.f8.f8) | (rw [if_neg (by simpa using heq), List.append_nil]; exact HL.f8.f8.f8.f8.f8.f8.f8.f8)⟩
   ·(try dsimp only); omega
 ·(try simp only [Z] at h1)
  refine dB (aI (aI (bf (aX ?_))))
  obtain rfl : i = A.length := by omega
  have HX := HL
  rw [List.take_length] at HX
  have hfi := hfl A.length
  have acD := acC A.length
  rw [List.take_length] at hfi acD
  refine aC (jG O O (jG O O (jv (wo (k := .i64) (l := [_]) HX gy aj zeroValue3 O O O (by decide)) ?_)))
  rintro l9 w9 H9
  refine jv (lK H9.f2 ((H9).aS) gy acE O O (by first | omega | (simp only [List.length_append, List.length_nil, List.length_cons]; omega) | (simp; omega)) (by first | omega | (simp only [List.length_append, List.length_nil, List.length_cons]; omega) | (simp; omega))) ?_
  rintro l10 w10 ql
  try simp only [List.nil_append] at ql
  refine jG O O (jv (jR (vs := [_]) ql kR eU zeroValue226 O O O (by decide) (aW (by first | rfl | exact Rd.one ((ql.f8).oH)) bF)) ?_)
  rintro l11 EH rF
  refine jv (fU rF.f4 kR WU O O O ((rF).aS) (aW (by first | rfl | exact Rd.one ((rF.f9).oH)) bF) (by omega) (by omega)) ?_
  rintro l12 w12 uI
  have acF := uI.f2.right
  refine dJ O (bD 0 jo O sizeOf167 O (aH (fA 7 (l' := [_, _, _, _, _, _, _, _, _, _, _, _, _, _, _, _, _, _, _, _, _, _, _, _, _, _, _, _, _, _, _, _, _, _, _, _, _, _, _, _, _, _]) acF.f4 sizeOf167 O O (by first | rfl | exact Rd.one ((acF.f2).aS)) O O) ?_))
  rintro _ RZ Ar
  refine dJ O (bD 1 jo O sizeOf168 O (aH (fA 8 (l' := [_, _, _, _, _, _, _, _, _, _, _, _, _, _, _, _, _, _, _, _, _, _, _, _, _, _, _, _, _, _, _, _, _, _, _, _, _, _, _, _, _, _]) Ar sizeOf168 O O (by first | rfl | exact Rd.one ((Ar.f2).aS)) O O) ?_))
  rintro _ Sz yT
  refine bM (lY (.inr O) results156 ?_)
  have hs1 : (yK A k u gs).map (·.1) = (A.filter fun x => x.1 != k).map (·.1) ++ [k] := by unfold yK; rw [List.map_append]; rfl
  have hs2 : (yK A k u gs).map (·.2.1) = (A.filter fun x => x.1 != k).map (·.2.1) ++ [u] := by unfold yK; rw [List.map_append]; rfl
  have hs3 : (yK A k u gs).length = (A.filter fun x => x.1 != k).length + 1 := by unfold yK; rw [List.length_append]; rfl
  have HQ := (yT.f4.right.f4.right.f4.right.f2.f3.f6.f6.f6).WJ (p := k) |>.f2.oK.f3.En.f4.f3.f2
  exact ⟨_, _, by rw [hs1, hs2, hs3]; exact HQ⟩
end
section
variable {w0 w : World} {F : HP} {y : Nat} {s : dG} {x : Int} {b : Bool}
theorem Ll (H : V w0 w (oJ y s • F)) : gJ prog 63 #[.pointer (some ⟨y, 0, none⟩), .int .i64 x] w fun v w' => v = .int .i64 (s.rH x) ∧ V w0 w' (oJ y (s.yC x) • F) := by
 refine nT func63 ntmps63 ?_
 refine jr O (aP (aP ?_))
 obtain ⟨Xl, IU, IV, IW, IX, TM, TN, A_y, TP, TQ, Om, Oo, Oq, IY, IZ, I4, I5, I7, I8, I9, Ja, Jb, Jc, Jd, Je, pz, Ci, uP⟩ := (H).Oi
 refine aC (nD O O (bD 32 aN O aO O (fZ bK O (uP).get.2 O (aV (kT O) (jF O (fun h1 => ?_) (fun h1 => ?_))))))
 ·(try simp only [Z] at h1)
  refine bJ (bJ (jE O O (bP O (bJ (bJ (jE O O (iJ (Il (jL O (aF (dH results63 O ?_)))))))))))
  have hd : s.rH x = 1 := by
   unfold dG.rH
   by_cases hin : s.inn = true
   ·rw [if_pos hin, if_pos (by first | omega | (exfalso; simp_all))]
   ·rw [if_neg hin]
  have SC := uP.f12.f12.f12.f12.f12.f12.f12.f12.f12.f12.f12.f12
  have QK := V.rM (s := s) pz SC
  exact ⟨by rw [hd], by unfold dG.yC; rw [if_neg (by rw [hd]; decide)]; exact QK⟩
 ·(try simp only [Z] at h1)
  refine bC (bP O (bC (aV (gY O O) (iL O O (jF O (fun h2 => ?_) (fun h2 => ?_))))))
  ·(try simp only [Z] at h2)
   refine bJ (bJ (jE O O (iJ (Il (jL O (aF (dH results63 O ?_)))))))
   have hd : s.rH x = 1 := by
    unfold dG.rH
    by_cases hin : s.inn = true
    ·rw [if_pos hin, if_pos (by first | omega | (exfalso; simp_all))]
    ·rw [if_neg hin]
   have XT := uP.f12.f12.f12.f12.f12.f12.f12.f12.f12.f12.f12.f12
   have XU := V.rM (s := s) pz XT
   exact ⟨by rw [hd], by unfold dG.yC; rw [if_neg (by rw [hd]; decide)]; exact XU⟩
  ·(try simp only [Z] at h2)
   refine bC (bP O (bC (aV (iV O O) (iL O O (je O (fun h3 => ?_) (fun h3 => ?_))))))
   ·(try simp only [Z] at h3)
    refine jL O (aF (dH results63 O ?_))
    have hd : s.rH x = 1 := by
     unfold dG.rH
     by_cases hin : s.inn = true
     ·rw [if_pos hin, if_pos (by first | omega | (exfalso; simp_all))]
     ·rw [if_neg hin]
    have Ho9 := uP.f12.f12.f12.f12.f12.f12.f12.f12.f12.f12.f12.f12
    have aaL := V.rM (s := s) pz Ho9
    exact ⟨by rw [hd], by unfold dG.yC; rw [if_neg (by rw [hd]; decide)]; exact aaL⟩
   ·(try simp only [Z] at h3)
    refine gq (aP ?_)
    have hin : s.inn = true := by first | assumption | (simp_all; done)
    have hd : s.rH x = 0 := by unfold dG.rH; rw [if_pos hin, if_neg (by omega)]
    refine aC (jG O O (dJ O (bD 1 aN O dZ O (bD 8 cZ O aj O (aH (kY 9 uP aj) ?_)))))
    rintro _ EH rF
    refine iJ (jL O (dH results63 O ?_))
    rw [hd]
    refine ⟨O, ?_⟩
    unfold dG.yC
    rw [if_pos hd]
    exact V.rM (s := { s with c := { s.c with mode := x } }) ⟨pz.ok, pz.rx, pz.says, pz.Fa, pz.placed, pz.WT⟩ rF.f12.f12.f12.f12.f12.f12.f12.f12.f12.f12.f12.f12
end
end Go.Proofs.YtpdeedplgmbopaaGreatDoor
end
section
namespace Go.Proofs.YtpdeedplgmbopaaGreatDoor
open Go.RowKit
section
variable {w0 w : World} {F : HP} {e h : Nat} {hl : List pR} {base most : Int}
end
section
variable {w0 w : World} {F : HP} {l : List pR} {v : Value}
end
end Go.Proofs.YtpdeedplgmbopaaGreatDoor
end
section
namespace Go.Proofs.YtpdeedplgmbopaaGreatDoor
open Go.RowKit
open _root_.Go.Proofs.Tryz
section
variable {w0 w : World} {F : HP} {p y h : Nat} {L : List Int} {pt mk n : Int} {E : List (List Int)} {place : Nat} {s : dG} {l : List Int} {v wv nv : Value} {m : Nat} {xs ys : List Value}
theorem Lm (H : V w0 w (nS p L pt mk • F)) : gJ prog 152 #[.pointer (some ⟨p, 0, none⟩)] w fun v w' => ∃ q, v = .pointer (some ⟨q, 0, none⟩) ∧ V w0 w' (nS q L pt mk • nS p L pt mk • F) := by
 refine iG func152 ntmps152 ?_
 refine jr O (aP ?_)
 obtain ⟨afi, afj, acG, acH, acI, afk, afl, aea⟩ := (H).ref
 refine aC (wu O ?_)
 have Qe := aea.drew
 have lV := V.kp (Qe.f2.f2)
 refine yw [4, 9, 13] lV O (jB 0 O lV O (jB 1 O lV O (kJ 2 O lV O (gU 3 O lV 0 underlying222 O dM O (jT 4 O lV (fun W hW => kC ay O ((Kp.h hW)).get.2 O) (jB 6 O lV O (kJ 7 O lV O (gU 8 O lV 1 underlying222 O aj O (jT 9 O lV (fun W hW => kC aK O ((Kp.h hW)).get.2 O) (jB 10 O lV O (kJ 11 O lV O (gU 12 O lV 2 underlying222 O aj O (jT 13 O lV (fun W hW => kC aK O ((Kp.h hW)).get.2 O) (oq 5 O (lK (l := []) (Qe.iO none) ((Qe.f2).aS) ay WO O O (by first | omega | (simp only [List.length_append, List.length_nil, List.length_cons]; omega) | (simp; omega)) (by first | omega | (simp only [List.length_append, List.length_nil, List.length_cons]; omega) | (simp; omega))) ?_))))))))))))))
 rintro l2 w2 H2
 try simp only [List.nil_append] at H2
 have xJ := V.kp (H2.f3.f3.f3)
 refine dV xJ (fun W hW => (Kp.h hW).right.f2.f2) ?_
 refine ji 14 O xJ (fun _ => dS (zl := [.slice none 0 0, .int .i64 0, .int .i64 0]) (pl := [(0, 1), (1, 1), (2, 1)]) [_, _, _] underlying222 zeroValue222 O (fun w => by kernel_rfl) O (.one (Rd.one ((H2).aS)) (.on (.on .nil))) O) ?_
 refine oq 15 O (iM (l := [_, _, _]) H2 O O) ?_
 rintro _ w3 ⟨b3, rfl, H3⟩
 have yQ := V.kp (H3.f4.f4.f4.f4)
 refine gV yQ (by kernel_rfl) ?_
 refine ji 16 O yQ (fun _ => dN O) (qU (aX (lS (dH results152 O ?_))))
 have ZP := H3.f4.f4
 have ZQ := V.Qv acG acH acI ZP
 exact ⟨_, O, V.Qv acG acH acI ZQ.f3.f3⟩
theorem Ic (H : V w0 w (mg p E place • F)) (hE : E.length ≤ 60 ∧ (place < E.length ∨ place = 0) ∧ ∀ e ∈ E, e.length ≤ 1024) : gJ prog 153 #[.pointer (some ⟨p, 0, none⟩)] w fun v w' => ∃ q, v = .pointer (some ⟨q, 0, none⟩) ∧ V w0 w' (mg q E place • mg p E place • F) := by
 obtain ⟨u, HR⟩ := H.acB
 obtain ⟨us, HR⟩ := HR.swap.ll
 obtain ⟨au, cu, rfl, -⟩ := (HR.aS).form
 have hE1 : E.length ≤ 60 := hE.1
 have hE2 : ∀ k, (E.getD k []).length ≤ 1024 := VY hE.2.2
 refine iG func153 ntmps153 ?_
 refine jr O (jr O (aP (jr O (aY ?_))))
 refine fF [(0, _)] (fun (⟨k, z⟩ : Nat × Value) => [(3, z), (4, .int .i64 (k : Int))]) (fun (⟨k, z⟩ : Nat × Value) W => k ≤ E.length ∧ ∃ zs, V w0 W (Row 22 1 z k zs • zO .i32 zs (E.take k) • Row 22 1 (.slice au E.length cu) E.length us • zO .i32 us E • dL p (.cells #[.slice au E.length cu, .int .i64 place] 176 (0, 0)) • F)) (fun (⟨k, z⟩ : Nat × Value) => E.length - k) ((0, .slice none 0 0)) lG qG ⟨by omega, [], (HR.f3.f3.f3).Me.iO none⟩ ?_
 rintro ⟨k, z⟩ w1 ⟨hk, zs, HL⟩
 dsimp only [List.cons_append, List.nil_append]
 obtain ⟨az, cz, rfl, -⟩ := (HL.aS).form
 refine aP (bT O (nD O O (bD 0 underlying176 O sizeOf47 O (fZ iK O (HL.f5).get.2 O (aV (jw ((HL.f3).aS) iK O) (aV (gY O O) (je O (fun h1 => ?_) (fun h1 => ?_))))))))
 ·(try simp only [Z] at h1)
  refine gq (aP (aY ?_))
  have hkl : k < E.length := by omega
  have hek := hE2 k
  refine aC (jG O O (dJ O (bD 0 underlying176 O sizeOf47 O (fZ iK O (HL.f5).get.2 O (bP O ?_)))))
  obtain ⟨bu, ou, cu, eu⟩ := Rd.pJ ((HL.f3).aS) (by omega)
  cases eu
  refine aV (dD iK dM O O (by omega)) ?_
  refine aV (eG (bY ay O) O (by first | exact Rd.kX ((HL.f3).aS) (by omega) | exact Rd.uQ ((HL.f3).aS) (by omega) | exact Rd.uG ((HL.f3).aS) (by omega))) ?_
  refine Zz (fun aeJ aaM => ?_)
  refine dY O func181 (TG HL (fun W HW => (by rw [aaM]; exact (HW.f4).XK (by omega))) (by omega)) ?_
  rintro u3 w3 H3
  have Hf4 := H3.oK
  refine jv (jR (vs := [_]) Hf4 iK dM zeroValue22 O O O (by decide) (aW (by first | rfl | exact Rd.one ((Hf4).jy)) bF)) ?_
  rintro l5 w5 H5
  refine jv (fU H5.f3 iK Zl O O O ((H5).aS) (aW (by first | rfl | exact Rd.one ((H5.f2).jy)) bF) (by omega) (by omega)) ?_
  rintro l6 w6 H6
  have ZY := H6.f2.right
  refine fV O (bM (aJ (aX (aC (bP O (aV (fQ O O (by omega)) (fV O (bM ?_))))))))
  have HS := (ZY.f6.f6.f6.f4.f5.f6).Sv.f2
  refine dK ((k + 1, l6)) ?_ ?_ ?_ ?_
  ·exact qG
  ·exact lG
  ·(try dsimp only)
   first | done | exact ⟨by omega, _, by rw [Ia (d := []) hkl]; exact HS⟩
  ·(try dsimp only); omega
 ·(try simp only [Z] at h1)
  refine dB (aI (aI (bf (aX (bT O (nD O O (bD 1 underlying176 O aj O (fZ aK O (HL.f5).get.2 O ?_))))))))
  refine aV (dS (zl := [.slice none 0 0, .int .i64 0]) (pl := [(0, 1), (1, 1)]) [_, _] underlying176 zeroValue176 O (fun w => by kernel_rfl) O (.one (Rd.one ((HL).aS)) (.on .nil)) O) ?_
  refine jv (iM (l := [_, _]) HL O O) ?_
  rintro _ w8 ⟨b8, rfl, H8⟩
  refine fC O (dH results153 O ?_)
  have HL2 := V.UD (H8.f6.f6.f6.f4.f6.f6)
  rw [List.take_of_length_le (by omega)] at HL2
  have HL3 := V.HY HL2.f2
  exact ⟨_, O, (V.HY (V.UD HL3.f3.f3).f3).f2⟩
theorem Ie {x : Int} (H : V w0 w (dL p (.cells #[wv, nv, .int .i64 x] 166 (0, 0)) • Row 9 1 nv m ys • uD 1 wv m xs • F)) (hy : ∀ u ∈ ys, u.oneCell' = true) (hm : m ≤ 4097) : gJ prog 154 #[.pointer (some ⟨p, 0, none⟩)] w fun v w' => ∃ q nv', v = .pointer (some ⟨q, 0, none⟩) ∧
  V w0 w' (dL q (.cells #[wv, nv', .int .i64 x] 166 (0, 0)) • Row 9 1 nv' m ys • dL p (.cells #[wv, nv, .int .i64 x] 166 (0, 0)) • Row 9 1 nv m ys • uD 1 wv m xs • F) := by
 refine iG func154 ntmps154 ?_
 refine jr O (aP ?_)
 have P5 := H.drew
 have mF := V.kp (P5.f3.f3.f3)
 refine yw [3, 7, 12] mF O (jB 0 O mF O (kJ 1 O mF O (gU 2 O mF 0 fM O sizeOf33 O (jT 3 O mF (fun W hW => kC ig O ((Kp.h hW)).get.2 O) (jB 4 O mF O (kJ 5 O mF O (gU 6 O mF 1 fM O sizeOf33 O (jT 7 O mF (fun W hW => kC ig O ((Kp.h hW)).get.2 O) (jB 9 O mF O (kJ 10 O mF O (gU 11 O mF 2 fM O aj O (jT 12 O mF (fun W hW => kC aK O ((Kp.h hW)).get.2 O) (oq 8 O (fU (P5.iO none) ig X7 O O O ((P5.f2).aS) (by assumption) (by omega) (by omega)) ?_)))))))))))))
 rintro l1 w1 H1
 have acJ := V.kp (H1.f4.f4.f4.f4)
 refine dV acJ (fun W hW => (Kp.h hW).right.f3.f3.f3) ?_
 refine ji 13 O acJ (fun _ => dS (zl := [.slice none 0 0, .slice none 0 0, .int .i64 0]) (pl := [(0, 1), (1, 1), (2, 1)]) [_, _, _] fM zeroValue166 O (fun w => by kernel_rfl) O (.one (Rd.one ((H1.f4).oH)) (.one (Rd.one ((H1).aS)) (.on .nil))) O) ?_
 refine oq 14 O (iM (l := [_, _, _]) H1 O O) ?_
 rintro _ w2 ⟨b2, rfl, H2⟩
 have xJ := V.kp (H2.f5.f5.f5.f5.f5)
 refine gV xJ (by kernel_rfl) ?_
 refine ji 15 O xJ (fun _ => dN O) (qU (aX (lS (dH results154 O ?_))))
 have HQ := H2.f5.f5.f5.f5.f5
 simp only [Nat.zero_add, List.nil_append] at HQ
 exact ⟨_, _, O, HQ⟩
theorem Ot {pb pk : Nat} {pv gv : Value} {x md rs : Int} {t : ByteArray} {ov rn : Bool} (H : V w0 w (nS pb L pt mk • mg pk E place • Row 9 1 nv m ys • uD 1 wv m xs • F)) (hE : E.length ≤ 60 ∧ (place < E.length ∨ place = 0) ∧ ∀ e ∈ E, e.length ≤ 1024) (hy : ∀ u ∈ ys, u.oneCell' = true) (hm : m ≤ 4097) (o1 : pv.oneCell' = true) (o2 : gv.oneCell' = true) :
  gJ prog 115 #[.agg #[.pointer (some ⟨pb, 0, none⟩), .pointer (some ⟨pk, 0, none⟩), wv, nv, .int .i64 x, .string t, pv, gv, .int .i64 md, .bool ov, .int .i64 rs, .bool rn]] w fun v w' => ∃ qb qk nv',
   v = .agg #[.pointer (some ⟨qb, 0, none⟩), .pointer (some ⟨qk, 0, none⟩), wv, nv', .int .i64 x, .string t, pv, gv, .int .i64 md, .bool ov, .int .i64 rs, .bool rn] ∧
   V w0 w' (nS qb L pt mk • mg qk E place • Row 9 1 nv' m ys • nS pb L pt mk • mg pk E place • Row 9 1 nv m ys • uD 1 wv m xs • F) := by
 refine iG func115 ntmps115 ?_
 refine iH (jv (iM (l := [_, _, _, _, _, _, _, _, _, _, _, _]) H O O) ?_)
 rintro _ w1 ⟨b1, rfl, H1⟩
 refine jv (fJ (l := [_, _, _, _, _, _, _, _, _, _, _, _]) H1 zeroValue172 O) ?_
 rintro _ w2 ⟨b2, rfl, H2⟩
 refine Xi (bD 0 cZ O sizeOf163 O (fZ underlying163 O (H2.f2).get.2 O (dY O func152 (Lm H2.f3) ?_)))
 rintro _ w3 ⟨q3, rfl, H3⟩
 refine bD 0 cZ O sizeOf163 O (aH (fA 0 (l' := [_, _, _, _, _, _, _, _, _, _, _, _]) H3.f4 sizeOf163 O O (by first | rfl | assumption) O O) ?_)
 rintro _ w4 H4
 refine Xi (bD 1 cZ O sizeOf164 O (fZ underlying164 O (H4).get.2 O (dY O func153 (Ic H4.f5 (by assumption)) ?_)))
 rintro _ w5 ⟨q5, rfl, H5⟩
 refine bD 1 cZ O sizeOf164 O (aH (fA 1 (l' := [_, _, _, _, _, _, _, _, _, _, _, _]) H5.f3 sizeOf164 O O (by first | rfl | assumption) O O) ?_)
 rintro _ w6 H6
 refine Xi (bD 2 cZ O ny O (aV (nU 2 (xs := [_, _, _]) fM O ny O O (H6).get.2 O) (jv (fJ (l := [_, _, _]) H6 zeroValue166 O) ?_)))
 rintro _ w7 ⟨b7, rfl, H7⟩
 refine aH (bU 0 (l' := [_, _, _]) (us := [_, _, _]) H7 ny O O O (aW (by first | rfl | exact Rd.one ((H7.f9).oH)) (aW (by first | rfl | exact Rd.one ((H7.f8).aS)) (aA bF))) O O) ?_
 rintro _ w8 H8
 refine Xi (dY O func154 (Ie H8.f9.f9.f3 (by assumption) (by omega)) ?_)
 rintro _ w9 ⟨q9, nv9, rfl, H9⟩
 refine dJ O (aV (eY fM O ny O O (H9).get.2) (bD 2 cZ O ny O (aH (bU 2 (l' := [_, _, _, _, _, _, _, _, _, _, _, _]) (us := [_, _, _]) H9.f6 ny O O O (aW (by first | rfl | exact Rd.one ((H9.f5).oH)) (aW (by first | rfl | exact Rd.one ((H9.f2).aS)) (aA bF))) O O) ?_)))
 rintro _ w10 ql
 refine Xi (aV (eY cZ O dZ O O (ql).get.2) (aH (bU 0 (l' := [_, _, _, _, _, _, _, _, _, _, _, _]) (us := [_, _, _, _, _, _, _, _, _, _, _, _]) ql.f11 dZ O O O (aA (aA (aW (by first | rfl | exact Rd.one ((ql.f6).oH)) (aW (by first | rfl | exact Rd.one ((ql.f3).aS)) (aA (aA (aA (aA (aA (aA (aA (aA bF)))))))))))) O O) ?_))
 rintro _ EH rF
 refine YU ?_
 refine pX (.inl O) (J3 results115 O cZ O (by rw [aaN]; rfl) (rF).get.2) ?_
 exact ⟨_, _, _, O, rF.right.right.right.f2.right.f3.f3.f5.f7.f5.f6.f7⟩
theorem V.YB {k : IntKind} (H : V w0 w (mP k v l • F)) : V w0 w (mP k v l • mP k v l • F) := H.qW
theorem V.YC {A : List LE} (H : V w0 w (qj A • F)) : V w0 w (qj A • qj A • F) := H.qW
theorem V.Rz {h pb pk : Nat} {wv nv pv gv : Value} {A : List LE} {yf yt : Int} {ch : Bool} {u0 u1 u2 u3 u4 u5 u6 u7 u8 u9 ua ub : Value} (h1 : jQ s [] A yf yt) (H : V w0 w (dL y (.cells (.pointer (some ⟨h, 0, none⟩) :: .pointer (some ⟨pb, 0, none⟩) :: .pointer (some ⟨pk, 0, none⟩) :: wv :: nv :: .int .i64 s.c.place :: .string (jl s.hl s.c.tx s.c.place) :: pv :: gv :: .int .i64 s.c.mode :: .bool s.c.over :: .int .i64 s.c.res :: .bool s.c.run :: u0 :: u1 :: u2 :: u3 :: u4 :: u5 :: u6 :: u7 :: u8 :: u9 :: ua :: ub :: .bool s.given :: .bool s.minus :: .int .i64 s.arg :: .int .i64 s.zu :: .int .i64 s.TY :: .int .i64 s.Ua :: .int .i64 s.qO :: .bool s.inn :: .int .i64 s.cls :: .int .i64 yf :: .int .i64 yt :: .bool s.argues :: .bool s.killed :: .bool s.lI :: .slice none 0 0 :: .bool s.whole :: .bool ch :: []).toArray 174 (0, 0)) • nS pb s.c.L s.c.pt s.c.mark • mg pk s.c.E s.c.at_ • uD 1 wv (s.hl.length + 1) (strs (nP s.hl)) • Row 9 1 nv (s.hl.length + 1) (strs (uw s.hl s.c.tx)) • mP .i64 pv (A.map (·.1)) • uD 1 gv A.length (A.map (·.2.1)) • qj A • iY h s.hl s.base s.most • AZ s.inn s.hl s.was [u0, u1, u2, u3, u4, u5, u6, u7, u8, u9, ua, ub] • F)) : V w0 w (oJ y s • F) := by
  refine V.rM (y := y) (h := h) (pb := pb) (pk := pk) (wv := wv) (nv := nv) (pv := pv) (gv := gv) (ch := ch) (u0 := u0) (u1 := u1) (u2 := u2) (u3 := u3) (u4 := u4) (u5 := u5) (u6 := u6) (u7 := u7) (u8 := u8) (u9 := u9) (ua := ua) (ub := ub) (nw := .slice none 0 0) (es := []) h1 ?_
  rw [← h1.says]
  exact (H.rE none).of_eq (by unfold Js; simp only [List.length_nil, List.flatMap_nil, List.map_nil]; ac_rfl)
theorem V.RD {h pb pk : Nat} {wv nv pv gv : Value} {A : List LE} {yf yt : Int} {ch : Bool} {u0 u1 u2 u3 u4 u5 u6 u7 u8 u9 ua ub : Value} (h1 : jQ s [] A yf yt) (hi : s.inn = false) (H : V w0 w (dL y (.cells (.pointer (some ⟨h, 0, none⟩) :: .pointer (some ⟨pb, 0, none⟩) :: .pointer (some ⟨pk, 0, none⟩) :: wv :: nv :: .int .i64 s.c.place :: .string (jl s.hl s.c.tx s.c.place) :: pv :: gv :: .int .i64 s.c.mode :: .bool s.c.over :: .int .i64 s.c.res :: .bool s.c.run :: u0 :: u1 :: u2 :: u3 :: u4 :: u5 :: u6 :: u7 :: u8 :: u9 :: ua :: ub :: .bool s.given :: .bool s.minus :: .int .i64 s.arg :: .int .i64 s.zu :: .int .i64 s.TY :: .int .i64 s.Ua :: .int .i64 s.qO :: .bool false :: .int .i64 s.cls :: .int .i64 yf :: .int .i64 yt :: .bool s.argues :: .bool s.killed :: .bool s.lI :: .slice none 0 0 :: .bool s.whole :: .bool ch :: []).toArray 174 (0, 0)) • nS pb s.c.L s.c.pt s.c.mark • mg pk s.c.E s.c.at_ • uD 1 wv (s.hl.length + 1) (strs (nP s.hl)) • Row 9 1 nv (s.hl.length + 1) (strs (uw s.hl s.c.tx)) • mP .i64 pv (A.map (·.1)) • uD 1 gv A.length (A.map (·.2.1)) • qj A • iY h s.hl s.base s.most • F)) (hu : ([u0, u1, u2, u3, u4, u5, u6, u7, u8, u9, ua, ub].all fun x => x.oneCell') = true) : V w0 w (oJ y s • F) := by
  refine V.Rz (y := y) (h := h) (pb := pb) (pk := pk) (wv := wv) (nv := nv) (pv := pv) (gv := gv) (ch := ch) (u0 := u0) (u1 := u1) (u2 := u2) (u3 := u3) (u4 := u4) (u5 := u5) (u6 := u6) (u7 := u7) (u8 := u8) (u9 := u9) (ua := ua) (ub := ub) h1 ?_
  rw [hi]
  exact (H.DI (hl := s.hl) (c := s.was) (u := [u0, u1, u2, u3, u4, u5, u6, u7, u8, u9, ua, ub]) hu).of_eq (by ac_rfl)
theorem Jf (H : V w0 w (oJ y s • F)) : gJ prog 61 #[.pointer (some ⟨y, 0, none⟩)] w fun v w' => v = .int .i64 s.BJ ∧ V w0 w' (oJ y s.jZ • F) := by
 refine iG func61 ntmps61 ?_
 refine jr O (aP (aP ?_))
 obtain ⟨Xl, IU, IV, IW, IX, TM, TN, A_y, TP, TQ, Om, Oo, Oq, IY, IZ, I4, I5, I7, I8, I9, Ja, Jb, Jc, Jd, Je, pz, Ci, uP⟩ := (H).Oi
 have hE9 := pz.rx.1.2
 have hy9 := @JC (uw s.hl s.c.tx)
 obtain ⟨hv9, hk9, _⟩ := (uP.f9).Q7
 have hhl := hk9.1
 have o1 := (uP.f6).jy.one
 have o2 := (uP.f7).oH.one
 refine aC (nD O O (bD 32 aN O aO O (fZ bK O (uP).get.2 O (je O (fun h1 => ?_) (fun h1 => ?_)))))
 ·(try simp only [Z] at h1)
  have hin := h1
  refine jL O (aF (dH results61 O ?_))
  have SC := uP.f12.f12.f12.f12.f12.f12.f12.f12.f12.f12.f12.f12
  have QK := V.rM (s := s) pz SC
  exact ⟨by unfold dG.BJ; rw [if_pos hin], by rw [GZ hin]; exact QK⟩
 ·(try simp only [Z] at h1)
  have hin := h1
  refine gq (bT O (dJ O (bD 32 aN O aO O (aH (kY 32 uP aO) ?_))))
  rintro _ w5 H5
  refine qR O (nD O O (bD 1 aN O dZ O (aV (nU 1 (xs := [_, _, _, _, _, _, _, _, _, _, _, _]) cZ O dZ O O (H5).get.2 O) (dY O func115 (Ot H5.f4.f5.f5.f5 (by assumption) (by assumption) (by omega) (by assumption) (by assumption)) ?_))))
  rintro _ w6 ⟨qb6, qk6, nv6, rfl, H6⟩
  refine dJ O (bD 13 aN O dZ O (aH (bU 13 (l' := [_, _, _, _, _, _, _, _, _, _, _, _, _, _, _, _, _, _, _, _, _, _, _, _, _, _, _, _, _, _, _, _, _, _, _, _, _, _, _, _, _, _]) (us := [_, _, _, _, _, _, _, _, _, _, _, _]) H6.f8 dZ O O O (aA (aA (aW (by first | rfl | exact Rd.one ((H6.f7).oH)) (aW (by first | rfl | exact Rd.one ((H6.f3).aS)) (aA (aA (aW (by first | rfl | exact Rd.one ((H6.f9).jy)) (aW (by first | rfl | exact Rd.one ((H6.f10).oH)) (aA (aA (aA (aA bF)))))))))))) O O) ?_))
  rintro _ w7 H7
  refine qR O (jG O O (dJ O (bD 33 aN O aj O (aH (kY 33 H7 aj) ?_))))
  rintro _ w8 H8
  refine dJ O (bD 34 aN O aj O (aH (kY 34 H8 aj) ?_))
  rintro _ w9 H9
  refine dJ O (bD 35 aN O aj O (aH (kY 35 H9 aj) ?_))
  rintro _ w10 ql
  refine qR O (jG O O (jG O O (dJ O (bD 36 aN O aO O (aH (kY 36 ql aO) ?_)))))
  rintro _ EH rF
  refine dJ O (bD 37 aN O aO O (aH (kY 37 rF aO) ?_))
  rintro _ w12 uI
  refine dJ O (bD 38 aN O aO O (aH (kY 38 uI aO) ?_))
  rintro _ Pj xk
  refine dJ O (bD 40 aN O aO O (aH (kY 40 xk aO) ?_))
  rintro _ RZ Ar
  refine dJ O (bD 41 aN O aO O (aH (kY 41 Ar aO) ?_))
  rintro _ Sz yT
  refine qR O (dJ O (bD 39 aN O bH O (aH (kY 39 yT bH) ?_)))
  rintro _ w16 yO
  refine iJ (jL O (dH results61 O ?_))
  have hin' : s.inn = false := by simpa using hin
  have PE := yO.f8
  have PG := PE.WI
  have aeb := PG.f10
  have aec := aeb.YB
  have aaC := aec.f12
  have aaD := aaC.WI
  have VI := aaD.f14
  have VJ := VI.YC
  have aaO := VJ.f2.f4.f6.f12.f9.f12.f12
  have aaP := V.YA (c := s.c) pz.Fa pz.placed aaO
  have HX := aaP.f11.right.f11.right.f11.right.f10.f3.f4.f5.f10.f7.f10.f10.f10
  rw [show s.zu = s.c.last from if_neg (by simp [hin']), show s.TY = s.c.fr from if_neg (by simp [hin']), show s.Ua = s.c.to from if_neg (by simp [hin'])] at HX
  exact ⟨by unfold dG.BJ; rw [if_neg (by simp [hin'])], by rw [vN hin']; exact V.Rz (vN hin' ▸ pz.begin hin') HX⟩
end
end Go.Proofs.YtpdeedplgmbopaaGreatDoor
end
section
namespace Go.Proofs.YtpdeedplgmbopaaGreatDoor
open Go.RowKit
section
variable {w0 w : World} {F : HP} {p y h : Nat} {s : dG} {l dl il : List Int} {v d i : Value} {a x j k : Int}
end
section
variable {w0 w : World} {F : HP} {p y h : Nat} {s : dG} {l : List Int} {v : Value} {j k : Int}
theorem jQ.cls {es : List dQ} {A : List LE} {yf yt : Int} (h : jQ s es A yf yt) (c : Int) (hc : c ≠ 2) : jQ { s with cls := c } es A yf yt :=
  ⟨h.ok, ⟨h.rx.1, h.rx.2.1, fun _ h2 => absurd h2 hc⟩, h.says, h.Fa, h.placed, h.WT⟩
end
end Go.Proofs.YtpdeedplgmbopaaGreatDoor
end
