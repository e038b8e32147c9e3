import Derived.Test.YtpdeedplgmbopaaGreatDoorZ4
import Derived.Test.YtpdeedplgmbopaaGreatDoorZ17
import Derived.Test.YtpdeedplgmbopaaGreatDoorZ6
import Derived.Test.YtpdeedplgmbopaaGreatDoorZ5
import Derived.Test.YtpdeedplgmbopaaGreatDoorZ12
import Derived.Test.YtpdeedplgmbopaaGreatDoorZ14
import Derived.Test.YtpdeedplgmbopaaGreatDoorZ11
set_option linter.unusedSimpArgs false
set_option linter.unusedVariables false
/- Texts of mine, joined, their names in short: Ref7b BufAny Ref7c RefAny RefRing REd EdSt REdX RLs2 REdA REd0 EBoth0 REdB REdR REdT. -/
section
namespace Go.Proofs.YtpdeedplgmbopaaGreatDoor
open Go.RowKit
section
variable {w0 w : World} {F : HP} {p : Nat} {L : List Int} {pt mk x : Int} {v : Value} {l : List Int}
end
end Go.Proofs.YtpdeedplgmbopaaGreatDoor
end
section

end
section
namespace Go.Proofs.YtpdeedplgmbopaaGreatDoor
open Go.RowKit
section
variable {w0 w : World} {F : HP} {p : Nat} {L : List Int} {pt mk x : Int} {v : Value} {l : List Int}
end
section
variable {w0 w : World} {F : HP} {p : Nat} {L : List Int} {pt mk : Int} {v d s : Value} {l dl il : List Int} {i j a x : Int}
end
end Go.Proofs.YtpdeedplgmbopaaGreatDoor
end
section
namespace Go.Proofs.YtpdeedplgmbopaaGreatDoor
open Go.RowKit
open _root_.Go.Proofs.Tryz
section
variable {w0 w : World} {F : HP} {p place : Nat} {E ls : List (List Int)} {v x y : Value} {l m : List Int} {vs : List Value}
theorem WO (H : V w0 w F) (h1 : jZ w0 F .i32 x l) (h2 : jZ w0 F .i32 y m) (hb : l.length + m.length ≤ 35184372088832) :
    gI prog 181 #[x, y] w fun v w' => V w0 w' (kQ 21 .i32 v (l ++ m) • F) := by
  refine oq func181 ntmps181 ?_
  refine jg O (jg O (bP O (bQ O (jr (lD (l := []) (H.iP none) (h1 _ (H)) aB WR O O (by first | omega | (simp only [List.length_append, List.length_nil, List.length_cons]; omega) | (simp; omega)) (by first | omega | (simp only [List.length_append, List.length_nil, List.length_cons]; omega) | (simp; omega))) ?_))))
  rintro l1 w1 H1
  try simp only [List.nil_append] at H1
  refine gJ O (bP O (bQ O (jr (lD H1 (h2 _ (H1.right)) aB WR O O (by first | omega | (simp only [List.length_append, List.length_nil, List.length_cons]; omega) | (simp; omega)) (by first | omega | (simp only [List.length_append, List.length_nil, List.length_cons]; omega) | (simp; omega))) ?_)))
  rintro l2 w2 H2
  try simp only [List.nil_append] at H2
  refine eY O (dG results181 O ?_)
  simpa using H2
theorem TG (H : V w0 w F) (h1 : jZ w0 F .i32 x l) (hb : l.length ≤ 35184372088832) :
    gI prog 181 #[x, .slice none 0 0] w fun v w' => V w0 w' (kQ 21 .i32 v l • F) := by
  have := WO H h1 (fun W _ => fP.nil W .i32 none 0 (by decide)) (by simpa using hb)
  simpa using this
def lV (p : Nat) (E : List (List Int)) (place : Nat) : HP := rH fun v => dK p (.cells #[v, .int .i64 place] 176 (0, 0)) • LL 22 .i32 v E
theorem V.acA (H : V w0 w (lV p E place • F)) : ∃ v, V w0 w (dK p (.cells #[v, .int .i64 place] 176 (0, 0)) • LL 22 .i32 v E • F) := let ⟨v, h⟩ := H.lJ; ⟨v, h.flat⟩
theorem V.Hy (H : V w0 w (dK p (.cells #[v, .int .i64 place] 176 (0, 0)) • LL 22 .i32 v E • F)) : V w0 w (lV p E place • F) := V.iy v H.deep
theorem Hz {α : Type _} {l : List α} {k : Nat} {d : α} (h : k < l.length) : l.take (k + 1) = l.take k ++ [l.getD k d] := by rw [List.take_succ_eq_append_getElem h, List.getD_eq_getElem?_getD, List.getElem?_eq_getElem h]; rfl
end
end Go.Proofs.YtpdeedplgmbopaaGreatDoor
end
section
namespace Go.Proofs.YtpdeedplgmbopaaGreatDoor
open Go.RowKit
def tY (hl : List pz) (tx : Int → Option ByteArray) : List ByteArray := (List.range (hl.length + 1)).map fun (k : Nat) => jm hl tx (k : Int)
theorem Ee (hl : List pz) (tx : Int → Option ByteArray) : (tY hl tx).length = hl.length + 1 := by simp [tY]
theorem Ar (hl : List pz) : (nO hl).length = hl.length + 1 := by simp [nO]
theorem WS {hl : List pz} {tx : Int → Option ByteArray} {k : Nat} (hk : k ≤ hl.length) : (tY hl tx).getD k .empty = jm hl tx k := by
  unfold tY
  rw [List.getD_eq_getElem?_getD, List.getElem?_map, List.getElem?_range (by omega)]; rfl
theorem WT {hl : List pz} {k : Nat} (hk : k ≤ hl.length) : (nO hl).getD k .empty = yP hl k := by
  unfold nO yP MH
  by_cases h : k < hl.length
  · rw [if_pos (by omega), List.getD_eq_getElem?_getD, List.getElem?_append_left (by simpa using h), List.getElem?_map, List.getElem?_eq_getElem h]
    simp [List.getD_eq_getElem?_getD, h]
  · obtain rfl : k = hl.length := by omega
    rw [if_neg (by omega), List.getD_eq_getElem?_getD, List.getElem?_append_right (by simp)]
    simp
theorem HY (hl : List pz) : tY hl (fun _ => none) = nO hl := by
  apply List.ext_getElem?
  intro k
  by_cases h : k ≤ hl.length
  · have h1 := WS (tx := fun _ => none) h
    have h2 := WT h
    rw [List.getD_eq_getElem?_getD, List.getElem?_eq_getElem (by rw [Ee]; omega)] at h1
    rw [List.getD_eq_getElem?_getD, List.getElem?_eq_getElem (by rw [Ar]; omega)] at h2
    rw [List.getElem?_eq_getElem (by rw [Ee]; omega), List.getElem?_eq_getElem (by rw [Ar]; omega)]
    simp only [Option.getD_some] at h1 h2
    rw [h1, h2]; rfl
  · rw [List.getElem?_eq_none (by rw [Ee]; omega), List.getElem?_eq_none (by rw [Ar]; omega)]
def Du (c : lZ) : Prop := (∀ k, iG (c.un k) [] ≤ 16384 ∧ ∀ g ∈ c.un k, g ≠ []) ∧ (c.E.length ≤ 60 ∧ (c.at_ < c.E.length ∨ c.at_ = 0) ∧ ∀ e ∈ c.E, e.length ≤ 1024)
def RX (s : dF) : Prop := Du s.c ∧ (s.inn = true → Du s.was ∧ s.c.last = s.was.last ∧ (s.lu = false → s.c.fr = s.was.fr ∧ s.c.to = s.was.to)) ∧ (s.inn = true → s.cls = 2 → s.lu = true)
def uz (hl : List pz) (A : List LE) : Prop := (A.map (·.1)).Nodup ∧ ∀ x ∈ A.map (·.1), 0 ≤ x ∧ x ≤ (hl.length : Int)
def Ef (pb pk : Nat) (wv nv pv gv : Value) (hl : List pz) (c : lZ) : List Value := [.pointer (some ⟨pb, 0, none⟩), .pointer (some ⟨pk, 0, none⟩), wv, nv, .int .i64 c.place, .string (jm hl c.tx c.place), pv, gv, .int .i64 c.mode, .bool c.over, .int .i64 c.res, .bool c.run]
structure ROP where
  pb : Nat
  pk : Nat
  wv : Value
  nv : Value
  pv : Value
  gv : Value
  A : List LE
def AL (inn : Bool) (hl : List pz) (c : lZ) (u : List Value) : HP := if inn = true then rH fun (x : ROP) => fact (u = Ef x.pb x.pk x.wv x.nv x.pv x.gv hl c ∧ EU x.A = c.un ∧ uz hl x.A ∧ (u.all fun x => x.oneCell') = true) •
  nR x.pb c.L c.pt c.mark • lV x.pk c.E c.at_ • uh 1 x.wv (hl.length + 1) (strs (nO hl)) • Row 9 1 x.nv (hl.length + 1) (strs (tY hl c.tx)) • mO .i64 x.pv (x.A.map (·.1)) • uh 1 x.gv x.A.length (x.A.map (·.2.1)) • pU x.A else fact ((u.all fun x => x.oneCell') = true)
structure jO (s : dF) (es : List dQ) (A : List LE) (yf yt : Int) : Prop where
  ok : lM s
  rx : RX s
  says : es.map dQ.says = s.put
  EU : EU A = s.c.un
  placed : uz s.hl A
  WU : s.inn = true → s.lu = true → yf = s.c.fr ∧ yt = s.c.to
structure RdP where
  h : Nat
  pb : Nat
  pk : Nat
  wv : Value
  nv : Value
  pv : Value
  gv : Value
  A : List LE
  nw : Value
  es : List dQ
  yf : Int
  yt : Int
  ch : Bool
  u0 : Value
  u1 : Value
  u2 : Value
  u3 : Value
  u4 : Value
  u5 : Value
  u6 : Value
  u7 : Value
  u8 : Value
  u9 : Value
  ua : Value
  ub : Value
def oH (y : Nat) (s : dF) : HP := rH fun (x : RdP) => match x with
  | ⟨h, pb, pk, wv, nv, pv, gv, A, nw, es, yf, yt, ch, u0, u1, u2, u3, u4, u5, u6, u7, u8, u9, ua, ub⟩ => fact (jO s es A yf yt) • dK y (.cells (.pointer (some ⟨h, 0, none⟩) :: .pointer (some ⟨pb, 0, none⟩) :: .pointer (some ⟨pk, 0, none⟩) :: wv :: nv :: .int .i64 s.c.place :: .string (jm s.hl s.c.tx s.c.place) :: pv :: gv :: .int .i64 s.c.mode :: .bool s.c.over :: .int .i64 s.c.res :: .bool s.c.run :: u0 :: u1 :: u2 :: u3 :: u4 :: u5 :: u6 :: u7 :: u8 :: u9 :: ua :: ub :: .bool s.given :: .bool s.minus :: .int .i64 s.arg :: .int .i64 s.y9 :: .int .i64 s.Ua :: .int .i64 s.Ub :: .int .i64 s.qL :: .bool s.inn :: .int .i64 s.cls :: .int .i64 yf :: .int .i64 yt :: .bool s.argues :: .bool s.killed :: .bool s.lu :: nw :: .bool s.whole :: .bool ch :: []).toArray 174 (0, 0)) • nR pb s.c.L s.c.pt s.c.mark • lV pk s.c.E s.c.at_ • uh 1 wv (s.hl.length + 1) (strs (nO s.hl)) • Row 9 1 nv (s.hl.length + 1) (strs (tY s.hl s.c.tx)) • mO .i64 pv (A.map (·.1)) • uh 1 gv A.length (A.map (·.2.1)) • pU A • iZ h s.hl s.base s.most • Row 189 3 nw s.put.length (es.flatMap dQ.enc) • kE es • AL s.inn s.hl s.was [u0, u1, u2, u3, u4, u5, u6, u7, u8, u9, ua, ub]
section
variable {w0 w : World} {F : HP} {y : Nat} {s : dF}
theorem V.Oa (H : V w0 w (oH y s • F)) : ∃ h pb pk wv nv pv gv A nw es yf yt ch u0 u1 u2 u3 u4 u5 u6 u7 u8 u9 ua ub, jO s es A yf yt ∧ es.length = s.put.length ∧ V w0 w (dK y (.cells (.pointer (some ⟨h, 0, none⟩) :: .pointer (some ⟨pb, 0, none⟩) :: .pointer (some ⟨pk, 0, none⟩) :: wv :: nv :: .int .i64 s.c.place :: .string (jm s.hl s.c.tx s.c.place) :: pv :: gv :: .int .i64 s.c.mode :: .bool s.c.over :: .int .i64 s.c.res :: .bool s.c.run :: u0 :: u1 :: u2 :: u3 :: u4 :: u5 :: u6 :: u7 :: u8 :: u9 :: ua :: ub :: .bool s.given :: .bool s.minus :: .int .i64 s.arg :: .int .i64 s.y9 :: .int .i64 s.Ua :: .int .i64 s.Ub :: .int .i64 s.qL :: .bool s.inn :: .int .i64 s.cls :: .int .i64 yf :: .int .i64 yt :: .bool s.argues :: .bool s.killed :: .bool s.lu :: nw :: .bool s.whole :: .bool ch :: []).toArray 174 (0, 0)) • nR pb s.c.L s.c.pt s.c.mark • lV pk s.c.E s.c.at_ • uh 1 wv (s.hl.length + 1) (strs (nO s.hl)) • Row 9 1 nv (s.hl.length + 1) (strs (tY s.hl s.c.tx)) • mO .i64 pv (A.map (·.1)) • uh 1 gv A.length (A.map (·.2.1)) • pU A • iZ h s.hl s.base s.most • Row 189 3 nw s.put.length (es.flatMap dQ.enc) • kE es • AL s.inn s.hl s.was [u0, u1, u2, u3, u4, u5, u6, u7, u8, u9, ua, ub] • F) := by
  obtain ⟨⟨h, pb, pk, wv, nv, pv, gv, A, nw, es, yf, yt, ch, u0, u1, u2, u3, u4, u5, u6, u7, u8, u9, ua, ub⟩, H⟩ := H.lJ
  obtain ⟨h1, H⟩ := H.flat.fact
  refine ⟨h, pb, pk, wv, nv, pv, gv, A, nw, es, yf, yt, ch, u0, u1, u2, u3, u4, u5, u6, u7, u8, u9, ua, ub, h1, ?_, ?_⟩
  · rw [← h1.says]; simp
  · exact H.of_eq (by simp only [bW])
theorem V.rD {h pb pk : Nat} {wv nv pv gv : Value} {A : List LE} {nw : Value} {es : List dQ} {yf yt : Int} {ch : Bool} {u0 u1 u2 u3 u4 u5 u6 u7 u8 u9 ua ub : Value} (h1 : jO s es A yf yt) (H : V w0 w (dK y (.cells (.pointer (some ⟨h, 0, none⟩) :: .pointer (some ⟨pb, 0, none⟩) :: .pointer (some ⟨pk, 0, none⟩) :: wv :: nv :: .int .i64 s.c.place :: .string (jm s.hl s.c.tx s.c.place) :: pv :: gv :: .int .i64 s.c.mode :: .bool s.c.over :: .int .i64 s.c.res :: .bool s.c.run :: u0 :: u1 :: u2 :: u3 :: u4 :: u5 :: u6 :: u7 :: u8 :: u9 :: ua :: ub :: .bool s.given :: .bool s.minus :: .int .i64 s.arg :: .int .i64 s.y9 :: .int .i64 s.Ua :: .int .i64 s.Ub :: .int .i64 s.qL :: .bool s.inn :: .int .i64 s.cls :: .int .i64 yf :: .int .i64 yt :: .bool s.argues :: .bool s.killed :: .bool s.lu :: nw :: .bool s.whole :: .bool ch :: []).toArray 174 (0, 0)) • nR pb s.c.L s.c.pt s.c.mark • lV pk s.c.E s.c.at_ • uh 1 wv (s.hl.length + 1) (strs (nO s.hl)) • Row 9 1 nv (s.hl.length + 1) (strs (tY s.hl s.c.tx)) • mO .i64 pv (A.map (·.1)) • uh 1 gv A.length (A.map (·.2.1)) • pU A • iZ h s.hl s.base s.most • Row 189 3 nw s.put.length (es.flatMap dQ.enc) • kE es • AL s.inn s.hl s.was [u0, u1, u2, u3, u4, u5, u6, u7, u8, u9, ua, ub] • F)) : V w0 w (oH y s • F) :=
  V.iy ⟨h, pb, pk, wv, nv, pv, gv, A, nw, es, yf, yt, ch, u0, u1, u2, u3, u4, u5, u6, u7, u8, u9, ua, ub⟩ (V.deep (V.jY h1 (H.of_eq (by simp only [bW]))))
theorem TI {inn : Bool} {hl : List pz} {c : lZ} {u : List Value} (H : V w0 w (AL inn hl c u • F)) : (u.all fun x => x.oneCell') = true := by
  unfold AL at H
  cases inn with
  | true =>
    rw [if_pos rfl] at H
    obtain ⟨x, H⟩ := H.lJ
    exact H.flat.fact.1.2.2.2
  | false =>
    rw [if_neg (by decide)] at H
    exact H.fact.1
theorem V.Dv {hl : List pz} {c : lZ} {u : List Value} (H : V w0 w F) (hu : (u.all fun x => x.oneCell') = true) : V w0 w (AL false hl c u • F) := by
  unfold AL
  rw [if_neg (by decide)]
  exact H.jY hu
theorem V.ad4 {hl : List pz} {c : lZ} {u : List Value} (H : V w0 w (AL true hl c u • F)) : ∃ pb pk wv nv pv gv A, u = Ef pb pk wv nv pv gv hl c ∧ EU A = c.un ∧ uz hl A ∧ (u.all fun x => x.oneCell') = true ∧
    V w0 w (nR pb c.L c.pt c.mark • lV pk c.E c.at_ • uh 1 wv (hl.length + 1) (strs (nO hl)) • Row 9 1 nv (hl.length + 1) (strs (tY hl c.tx)) • mO .i64 pv (A.map (·.1)) • uh 1 gv A.length (A.map (·.2.1)) • pU A • F) := by
  unfold AL at H
  rw [if_pos rfl] at H
  obtain ⟨⟨pb, pk, wv, nv, pv, gv, A⟩, H⟩ := H.lJ
  obtain ⟨⟨h1, h2, h3, h4⟩, H⟩ := H.flat.fact
  exact ⟨pb, pk, wv, nv, pv, gv, A, h1, h2, h3, h4, H.of_eq (by simp only [bW])⟩
theorem V.YA {hl : List pz} {c : lZ} {pb pk : Nat} {wv nv pv gv : Value} {A : List LE} (h2 : EU A = c.un) (h3 : uz hl A) (H : V w0 w (nR pb c.L c.pt c.mark • lV pk c.E c.at_ • uh 1 wv (hl.length + 1) (strs (nO hl)) • Row 9 1 nv (hl.length + 1) (strs (tY hl c.tx)) • mO .i64 pv (A.map (·.1)) • uh 1 gv A.length (A.map (·.2.1)) • pU A • F)) : V w0 w (AL true hl c (Ef pb pk wv nv pv gv hl c) • F) := by
  have o1 := (H.f3).oD.one
  have o2 := (H.f4).aS.one
  have o3 := (H.f5).jy.one
  have o4 := (H.f6).oD.one
  have hu : ((Ef pb pk wv nv pv gv hl c).all fun x => x.oneCell') = true := by
    unfold Ef
    simp only [List.all_cons, List.all_nil, o1, o2, o3, o4, Bool.and_true, Bool.true_and]
    rfl
  unfold AL
  rw [if_pos rfl]
  exact V.iy ⟨pb, pk, wv, nv, pv, gv, A⟩ (V.deep (V.jY ⟨rfl, h2, h3, hu⟩ (H.of_eq (by simp only [bW]))))
end
end Go.Proofs.YtpdeedplgmbopaaGreatDoor
end
section
namespace Go.Proofs.YtpdeedplgmbopaaGreatDoor
open Go.RowKit
open _root_.Go.Proofs.Tryz
def dF.qG (s : dF) (l : List Int) : Int := if s.inn then 1 else if 1024 < l.length then 3 else 0
def dF.BQ (s : dF) (hl : List pz) (base most : Int) (l : List Int) : dF := if s.qG l = 0 then s.start hl base most l else s
theorem Ob {s : dF} (h : lM s) (hi : s.inn = false) (hl : List pz) (base most : Int) (l : List Int) : lM (s.start hl base most l) := by
  obtain ⟨h1, h2, h3, h4, h5, h6⟩ := h
  refine ⟨Ny _ _ _ _ _, fun h => absurd (show s.inn = true from h) (by rw [hi]; decide), ⟨by show (-1 : Int) ≤ -1; decide, by show (-1 : Int) ≤ 1000000; decide⟩, h4, ?_, by simp [dF.start, lZ.fresh]⟩
  show iG [] s.put ≤ 16384
  unfold iG at *; simp at *; omega
section
variable {w0 w : World} {F : HP} {e p h pr : Nat} {s : dF} {hl : List pz} {base most m : Int} {v : Value} {l : List Int}
theorem Lc (H : V w0 w (gB e s • gQ h hl base most • F)) (hr : jZ w0 F .i32 v l) : gI prog 59 #[.pointer (some ⟨e, 0, none⟩), .pointer (some ⟨h, 0, none⟩), v] w fun v' w' =>
  v' = .int .i64 (s.qG l) ∧ V w0 w' (gB e (s.BQ hl base most l) • gQ h hl base most • F) := by
 unfold dF.BQ
 refine FM func59 ntmps59 ?_
 refine jg O (aP (aY (bP O (dS O func65 (oQ H) ?_))))
 rintro _ _ ⟨rfl, rfl⟩
 refine bQ O (bC (bQ O (bC (dS O func109 (qZ H.f2) ?_))))
 rintro _ w2 ⟨q2, rfl, H2⟩
 refine bC (aV (fV iT O O) (iM O O (gJ O (Jk O (fun h1 => ?_)))))
 (try simp only [Z] at h1)
 refine aP ?_
 have OA := H2.right
 obtain ⟨xG, xH, xI, xJ, xK, xM, xO, xP, uy, rV, rW, rX, rY, rZ, su, sD, sF, sG, sH, sJ, iw, dD, kV, iI⟩ := (OA.f2).Gp
 refine aC (nD O O (bD 16 ah O aO O (fG bK O (iI).get.2 O (gJ O (bJ O (fun h2 => ?_) (fun h2 => ?_))))))
 ·(try simp only [Z] at h2)
  have hin := h2
  have hE : s.qG l = 1 := by unfold dF.qG; rw [if_pos hin]
  refine jC O (aT (aF (dG results59 O ?_)))
  have XT := iI.f11.f11.f11.f11.f11.f11.f11.f11.f11.f11.f11
  have XU := V.iH (s := s) iw dD XT
  exact ⟨by rw [hE], by rw [if_neg (by rw [hE]; decide)]; exact XU.f2.f2⟩
 ·(try simp only [Z] at h2)
  have hin : s.inn = false := by simpa using h2
  refine bP O (aV (jk (hr _ (iI.right.right.right.right.right.right.right.right.right.right.right.right)) aB O) (aV (iV O O) (gJ O (bJ O (fun h3 => ?_) (fun h3 => ?_)))))
  ·(try simp only [Z] at h3)
   have hbig := h3
   have hE : s.qG l = 3 := by unfold dF.qG; rw [if_neg (by simp [hin]), if_pos (by omega)]
   refine jC O (aT (aF (dG results59 O ?_)))
   have Ho9 := iI.f11.f11.f11.f11.f11.f11.f11.f11.f11.f11.f11
   have aaL := V.iH (s := s) iw dD Ho9
   exact ⟨by rw [hE], by rw [if_neg (by rw [hE]; decide)]; exact aaL.f2.f2⟩
  ·(try simp only [Z] at h3)
   have hE : s.qG l = 0 := by unfold dF.qG; rw [if_neg (by simp [hin]), if_neg (by have h9 := h3; omega)]
   have hsh : l.length ≤ 1024 := by have h9 := h3; omega
   refine bY (aJ (aX (bP O (jJ O O (dS O func111 (Bd (E := s.c.E) (a := s.c.at_) iI.f2.right.f3.right.f3.right.f3.right.f3.right.f6.f6.f6.f6.f6.f7.f7 (fun W HW => hr W HW.right.right.right.right.right) hsh) ?_)))))
   rintro _ DU ⟨qb, qw, qt, qm, qh, qo⟩
   refine iJ (jC O (dG results59 O ?_))
   exact ⟨by rw [hE], by rw [if_pos hE]; exact V.iH (s := s.start hl base most l) (Ob iw hin _ _ _ _) dD qo.f7.f12.f12.f12.f12.f11.f11.f11.f11.f12.f12.f12⟩
end
end Go.Proofs.YtpdeedplgmbopaaGreatDoor
end
section
namespace Go.Proofs.YtpdeedplgmbopaaGreatDoor
open Go.RowKit
section
variable {s : dF} {es : List dQ} {A : List LE} {yf yt : Int}
theorem jO.yR (h : jO s es A yf yt) (L : List Int) (p m : Int) : jO (s.yR L p m) es A yf yt := ⟨JC h.ok _ _ _, h.rx, h.says, h.EU, h.placed, h.WU⟩
theorem jO.begin (h : jO s es A yf yt) (hi : s.inn = false) : jO s.jW [] A 0 0 := by
  have h1 := Nz h.ok hi
  have h0 := h.rx.1
  have hl := h.EU
  have hq := h.placed
  rw [vG hi] at h1 ⊢
  exact ⟨h1, ⟨h0, fun _ => ⟨h0, rfl, fun _ => ⟨rfl, rfl⟩⟩, fun _ h2 => absurd h2 (by show ¬ (0 : Int) = 2; decide)⟩, rfl, hl, hq, fun _ h2 => absurd h2 (by show ¬ false = true; decide)⟩
theorem JK {c : lZ} (h : Du c) {k : Int} {G : List (List iR)} (h1 : iG G [] ≤ 16384) (h2 : ∀ g ∈ G, g ≠ []) : Du { c with un := wL c.un k G } := by
  refine ⟨fun j => ?_, h.2⟩
  show iG (wL c.un k G j) [] ≤ 16384 ∧ ∀ g ∈ wL c.un k G j, g ≠ []
  by_cases hj : j = k
  · subst hj; rw [nN]; exact ⟨h1, h2⟩
  · rw [tq _ _ hj]; exact h.1 j
theorem jO.none (h : jO s es A yf yt) {x : iR} (hx : x.2.1.length + x.2.2.length = 0) : jO (s.QO x) es A yf yt := by rw [VY hx]; exact h
theorem Dw (h : lM s) (hx : Du s.c) (hp : s.put ≠ []) (on : Bool) : iG (s.kT on) [] ≤ 16384 ∧ (∀ g ∈ s.kT on, g ≠ []) ∧ ∀ g ∈ s.kT on, ∀ e ∈ g, xC e := by
  obtain ⟨h1, h2, h3, h4, h5, h6⟩ := h
  have hs := nY s.here s.put
  have hne := (hx.1 s.c.place).2
  have h6' : ∀ g ∈ s.here, ∀ e ∈ g, xC e := h6 s.c.place
  have key : ∀ (G : List (List iR)) (g : List iR), iG (G ++ [g]) [] ≤ iG s.here s.put → (∀ x ∈ G, x ∈ s.here) → (∀ e ∈ g, xC e) → g ≠ [] →
      iG (G ++ [g]) [] ≤ 16384 ∧ (∀ x ∈ G ++ [g], x ≠ []) ∧ ∀ x ∈ G ++ [g], ∀ e ∈ x, xC e := by
    intro G g a1 a2 a3 a4
    refine ⟨by omega, fun x hx => ?_, fun x hx => ?_⟩
    · rcases List.mem_append.1 hx with hx | hx
      · exact hne x (a2 x hx)
      · rw [List.mem_singleton.1 hx]; exact a4
    · rcases List.mem_append.1 hx with hx | hx
      · exact h6' x (a2 x hx)
      · rw [List.mem_singleton.1 hx]; exact a3
  unfold dF.kT
  rw [if_neg hp]
  cases on with
  | false =>
    rw [if_neg (by decide)]
    exact key s.here s.put (by rw [Dl]; omega) (fun x hx => hx) h4 hp
  | true =>
    rw [if_pos rfl]
    by_cases h0 : s.here = []
    · rw [h0]
      exact key [] s.put (by rw [Dl, VX]; omega) (fun x hx => by cases hx) h4 hp
    · rw [List.getLast?_eq_some_getLast h0]
      have hd := Dk h0
      have h2 : s.here.getLastD [] = s.here.getLast h0 := by rw [List.getLastD_eq_getLast?, List.getLast?_eq_some_getLast h0]; rfl
      rw [h2] at hd
      refine key s.here.dropLast (s.here.getLast h0 ++ s.put) ?_ (fun x hx => List.dropLast_subset _ hx) (fun e he => ?_) (fun he => hp (List.append_eq_nil_iff.1 he).2)
      · rw [Dl, List.length_append, hs]
        unfold iG
        simp only [List.length_nil, Nat.add_zero]
        omega
      · rcases List.mem_append.1 he with he | he
        · exact h6' _ (List.getLast_mem h0) e he
        · exact h4 e he
theorem TJ (h : lM s) (hx : Du s.c) (on : Bool) : lM (s.gK on) := by
  by_cases hp : s.put = []
  · rw [yT hp]; exact h
  · obtain ⟨f1, f2, f3⟩ := Dw h hx hp on
    rw [lH hp]
    obtain ⟨h1, h2, h3, h4, h5, h6⟩ := h
    refine ⟨h1, h2, h3, by simp, ?_, fun k g hg => ?_⟩
    · show iG (wL s.c.un s.c.place (s.kT on) s.c.place) [] ≤ 16384
      rw [nN]; exact f1
    · have hg' : g ∈ wL s.c.un s.c.place (s.kT on) k := hg
      by_cases hk : k = s.c.place
      · subst hk; rw [nN] at hg'; exact f3 g hg'
      · rw [tq _ _ hk] at hg'; exact h6 k g hg'
theorem TK (h : lM s) (hx : RX s) (on : Bool) : RX (s.gK on) := by
  by_cases hp : s.put = []
  · rw [yT hp]; exact hx
  · obtain ⟨f1, f2, f3⟩ := Dw h hx.1 hp on
    rw [lH hp]
    exact ⟨JK hx.1 f1 f2, hx.2.1, hx.2.2⟩
theorem jO.sub (h : jO s es A yf yt) {G : List (List iR)} {A' : List LE} (h1 : iG G s.put ≤ iG s.here s.put) (h2 : ∀ g ∈ G, g ∈ s.here) (hA : _root_.Go.Proofs.YtpdeedplgmbopaaGreatDoor.EU A' = wL s.c.un s.c.place G) (hP : uz s.hl A') : jO (s.vX G) es A' yf yt := by
  have ht := (h.rx.1.1 s.c.place).1
  have he : iG s.here s.put = iG s.here [] + s.put.length := nY _ _
  have hg : iG G s.put = iG G [] + s.put.length := nY _ _
  have hh : iG s.here [] ≤ 16384 := ht
  exact ⟨aaF h.ok h1 h2, ⟨JK h.rx.1 (by omega) (fun g hg => (h.rx.1.1 s.c.place).2 g (h2 g hg)), h.rx.2.1, h.rx.2.2⟩, h.says, hA, hP, h.WU⟩
theorem TL (h : Du s.c) : s.here.length ≤ 16384 := by
  have h1 := (h.1 s.c.place).1
  have h2 := (h.1 s.c.place).2
  have key : ∀ G : List (List iR), (∀ g ∈ G, g ≠ []) → G.length ≤ (G.map List.length).sum := by
    intro G hG
    induction G with
    | nil => simp
    | cons g r ih =>
      have := ih (fun x hx => hG x (List.mem_cons_of_mem _ hx))
      have h3 : 0 < g.length := List.length_pos_iff.2 (hG g (List.mem_cons_self ..))
      simp only [List.length_cons, List.map_cons, List.sum_cons]
      omega
  have h4 := key (s.c.un s.c.place) h2
  unfold iG at h1
  simp only [List.length_nil, Nat.add_zero] at h1
  exact Nat.le_trans h4 h1
theorem Qq {hl : List pz} {A : List LE} {k : Int} {u : Value} {gs : List (Value × List dQ)} (h : uz hl A) (hk : 0 ≤ k ∧ k ≤ hl.length) : uz hl (yB A k u gs) := Yy h hk
end
end Go.Proofs.YtpdeedplgmbopaaGreatDoor
end
section
namespace Go.Proofs.YtpdeedplgmbopaaGreatDoor
open Go.RowKit
open _root_.Go.Proofs.Tryz
theorem Ld {A : List LE} {i : Nat} (h : i < A.length) : (A.map (·.1)).getD i 0 = (A.getD i default).1 := by simp [List.getD_eq_getElem?_getD, h]
theorem Rx {A : List LE} {i : Nat} (h : i < A.length) : (A.map (·.2.1)).getD i undef = (A.getD i default).2.1 := by simp [List.getD_eq_getElem?_getD, h]
theorem JL {A : List LE} {p : LE → Bool} {i : Nat} (h : i < A.length) : (A.take (i + 1)).filter p = (A.take i).filter p ++ (if p (A.getD i default) then [A.getD i default] else []) := by
  rw [List.take_succ_eq_append_getElem h, List.filter_append, List.getD_eq_getElem?_getD, List.getElem?_eq_getElem h]
  simp only [Option.getD_some, List.filter_cons, List.filter_nil]
section
variable {w0 w : World} {F : HP} {y : Nat} {k : Int} {pv gv u : Value} {A : List LE} {gs : List (Value × List dQ)}
theorem Qr {x0 x1 x2 x3 x4 x5 x6 x9 x10 x11 x12 uF x14 x15 x16 x17 x18 x19 x20 x21 vw x23 x24 x25 vU x27 x28 x29 x30 x31 x32 wR x34 LK LM LP x38 x39 x40 x41 : Value} (H : V w0 w (dK y (.cells (x0 :: x1 :: x2 :: x3 :: x4 :: x5 :: x6 :: pv :: gv :: x9 :: x10 :: x11 :: x12 :: uF :: x14 :: x15 :: x16 :: x17 :: x18 :: x19 :: x20 :: x21 :: vw :: x23 :: x24 :: x25 :: vU :: x27 :: x28 :: x29 :: x30 :: x31 :: x32 :: wR :: x34 :: LK :: LM :: LP :: x38 :: x39 :: x40 :: x41 :: []).toArray 174 (0, 0)) • mO .i64 pv (A.map (·.1)) • uh 1 gv A.length (A.map (·.2.1)) • pU A • F)) : gI prog 155 #[.pointer (some ⟨y, 7, none⟩), .int .i64 k] w fun v' w' => ∃ gs, zY gs = EU A k ∧
  V w0 w' (uh 1 v' gs.length (gs.map (·.1)) • nJ gs • dK y (.cells (x0 :: x1 :: x2 :: x3 :: x4 :: x5 :: x6 :: pv :: gv :: x9 :: x10 :: x11 :: x12 :: uF :: x14 :: x15 :: x16 :: x17 :: x18 :: x19 :: x20 :: x21 :: vw :: x23 :: x24 :: x25 :: vU :: x27 :: x28 :: x29 :: x30 :: x31 :: x32 :: wR :: x34 :: LK :: LM :: LP :: x38 :: x39 :: x40 :: x41 :: []).toArray 174 (0, 0)) • mO .i64 pv (A.map (·.1)) • uh 1 gv A.length (A.map (·.2.1)) • pU A • F) := by
 have hpl : (A.map (·.1)).length = A.length := List.length_map _
 have hcap : (A.length : Int) ≤ 9223372036854775807 := by obtain ⟨_, a, c, _, h2, h3, _⟩ := (H.f3).oD; omega
 refine oq func155 ntmps155 ?_
 refine jg O (aP (jg O (aY ?_)))
 refine fF [(0, _), (1, _)] (fun (i : Nat) => [(5, .int .i64 (i : Int))]) (fun (i : Nat) W => (i ≤ A.length ∧ ∀ j, j < i → (A.getD j default).1 ≠ k) ∧ V w0 W (dK y (.cells (x0 :: x1 :: x2 :: x3 :: x4 :: x5 :: x6 :: pv :: gv :: x9 :: x10 :: x11 :: x12 :: uF :: x14 :: x15 :: x16 :: x17 :: x18 :: x19 :: x20 :: x21 :: vw :: x23 :: x24 :: x25 :: vU :: x27 :: x28 :: x29 :: x30 :: x31 :: x32 :: wR :: x34 :: LK :: LM :: LP :: x38 :: x39 :: x40 :: x41 :: []).toArray 174 (0, 0)) • mO .i64 pv (A.map (·.1)) • uh 1 gv A.length (A.map (·.2.1)) • pU A • F)) (fun (i : Nat) => A.length - i) (0) qB lI ⟨⟨by omega, fun j hj => by omega⟩, H.f4.f4.f4.f4⟩ ?_
 rintro i w1 ⟨⟨hi, hne⟩, HL⟩
 dsimp only [List.cons_append, List.nil_append]
 refine aP (bP O (nD O O (bD 0 jq O sizeOf167 O (fG gq O (HL).get.2 O (aV (jk ((HL.f2).jy) gq O) (aV (iL O O) (jh O (fun h1 => ?_) (fun h1 => ?_))))))))
 ·(try simp only [Z] at h1)
  refine fZ (aP (aY (aP ?_)))
  have hil : i < A.length := by omega
  refine aC (nD O O (bD 0 jq O sizeOf167 O (fG gq O (HL).get.2 O (bQ O ?_))))
  obtain ⟨bpv, opv, cpv, epv⟩ := fP.pW ((HL.f2).jy) (by omega)
  cases epv
  refine aV (dI gq aj O O (by omega)) ?_
  refine aV (fA (dn aK O) O (by first | exact fP.lW ((HL.f2).jy) (by omega) | exact fP.wK ((HL.f2).jy) (by omega) | exact fP.wH ((HL.f2).jy) (by omega))) ?_
  rw [Ld hil]
  refine bQ O (aV (dV O O) (jh O (fun h2 => ?_) (fun h2 => ?_)))
  ·(try simp only [Z] at h2)
   have hek : (A.getD i default).1 = k := h2
   refine bP O (dJ O (bD 1 jq O sizeOf168 O (fG kL O (HL).get.2 O (bQ O ?_))))
   obtain ⟨bgv, ogv, cgv, egv⟩ := Rd.pW ((HL.f3).oD) (by omega)
   cases egv
   refine aV (dI kL eH O O (by omega)) ?_
   refine aV (fA (dn bf O) O (by first | exact Rd.lW ((HL.f3).oD) (by omega) | exact Rd.wK ((HL.f3).oD) (by omega) | exact Rd.wH ((HL.f3).oD) (by omega))) ?_
   rw [Rx hil]
   have hat := aaK hil hne hek
   obtain ⟨xp, xv, xgs, hx⟩ : ∃ xp xv xgs, A.getD i default = (xp, xv, xgs) := ⟨_, _, _, rfl⟩
   rw [hx] at hat ⊢
   dsimp only at hat ⊢
   have Ho2 := HL.f4
   have XY := Ho2.Rw hil hx
   refine eY O (aT (aF (aF (aT (aF (dG results155 O ?_))))))
   exact ⟨xgs, hat.symm, XY.f3.f6.f6.f6.f6.f6⟩
  ·(try simp only [Z] at h2)
   have hni : (A.getD i default).1 ≠ k := h2
   refine bY (aJ (aX (aC (bQ O (aV (gy O O (by omega)) (fU O (bM ?_)))))))
   refine dL (i + 1) ?_ ?_ ?_ ?_
   ·exact lI
   ·exact qB
   ·(try dsimp only)
    first | done | exact ⟨⟨by omega, fun j hj => (show j < i ∨ j = i from by omega).elim (hne j) (fun c => c ▸ hni)⟩, HL.f4.f4.f4.f4⟩
   ·(try dsimp only); omega
 ·(try simp only [Z] at h1)
  refine dB (aI (aI (aZ (aX (aP ?_)))))
  obtain rfl : i = A.length := by omega
  refine aC (eY O (dG results155 O ?_))
  exact ⟨[], by rw [WI hne]; rfl, ((HL.f4.f4.f4.f4).Yz none).Ru⟩
theorem Oc {x0 x1 x2 x3 x4 x5 x6 x9 x10 x11 x12 uF x14 x15 x16 x17 x18 x19 x20 x21 vw x23 x24 x25 vU x27 x28 x29 x30 x31 x32 wR x34 LK LM LP x38 x39 x40 x41 : Value} (H : V w0 w (dK y (.cells (x0 :: x1 :: x2 :: x3 :: x4 :: x5 :: x6 :: pv :: gv :: x9 :: x10 :: x11 :: x12 :: uF :: x14 :: x15 :: x16 :: x17 :: x18 :: x19 :: x20 :: x21 :: vw :: x23 :: x24 :: x25 :: vU :: x27 :: x28 :: x29 :: x30 :: x31 :: x32 :: wR :: x34 :: LK :: LM :: LP :: x38 :: x39 :: x40 :: x41 :: []).toArray 174 (0, 0)) • mO .i64 pv (A.map (·.1)) • uh 1 gv A.length (A.map (·.2.1)) • pU A • uh 1 u gs.length (gs.map (·.1)) • nJ gs • F)) (hA : A.length ≤ 4097) : gI prog 156 #[.pointer (some ⟨y, 7, none⟩), .int .i64 k, u] w fun _ w' => ∃ pv' gv',
  V w0 w' (dK y (.cells (x0 :: x1 :: x2 :: x3 :: x4 :: x5 :: x6 :: pv' :: gv' :: x9 :: x10 :: x11 :: x12 :: uF :: x14 :: x15 :: x16 :: x17 :: x18 :: x19 :: x20 :: x21 :: vw :: x23 :: x24 :: x25 :: vU :: x27 :: x28 :: x29 :: x30 :: x31 :: x32 :: wR :: x34 :: LK :: LM :: LP :: x38 :: x39 :: x40 :: x41 :: []).toArray 174 (0, 0)) • mO .i64 pv' ((yB A k u gs).map (·.1)) • uh 1 gv' (yB A k u gs).length ((yB A k u gs).map (·.2.1)) • pU (yB A k u gs) • F) := by
 have hpl : (A.map (·.1)).length = A.length := List.length_map _
 have hfl : ∀ i, ((A.take i).filter fun x => x.1 != k).length ≤ A.length := fun i => Nat.le_trans (List.length_filter_le _ _) (by rw [List.length_take]; omega)
 have acB : ∀ i, (((A.take i).filter fun x => x.1 != k).map (·.1)).length = ((A.take i).filter fun x => x.1 != k).length := fun i => List.length_map _
 refine FM func156 ntmps156 ?_
 refine jg O (jg O (aP (jg O (aY ?_))))
 refine fF [(0, _), (1, _), (2, _)] (fun (⟨i, u1, u2⟩ : Nat × Value × Value) => [(6, u1), (7, u2), (8, .int .i64 (i : Int))]) (fun (⟨i, u1, u2⟩ : Nat × Value × Value) W => i ≤ A.length ∧ V w0 W (kQ 3 .i64 u1 (((A.take i).filter fun x => x.1 != k).map (·.1)) • Row 226 1 u2 ((A.take i).filter fun x => x.1 != k).length (((A.take i).filter fun x => x.1 != k).map (·.2.1)) • dK y (.cells (x0 :: x1 :: x2 :: x3 :: x4 :: x5 :: x6 :: pv :: gv :: x9 :: x10 :: x11 :: x12 :: uF :: x14 :: x15 :: x16 :: x17 :: x18 :: x19 :: x20 :: x21 :: vw :: x23 :: x24 :: x25 :: vU :: x27 :: x28 :: x29 :: x30 :: x31 :: x32 :: wR :: x34 :: LK :: LM :: LP :: x38 :: x39 :: x40 :: x41 :: []).toArray 174 (0, 0)) • mO .i64 pv (A.map (·.1)) • uh 1 gv A.length (A.map (·.2.1)) • pU A • uh 1 u gs.length (gs.map (·.1)) • nJ gs • F)) (fun (⟨i, u1, u2⟩ : Nat × Value × Value) => A.length - i) ((0, .slice none 0 0, .slice none 0 0)) uM uM ⟨by omega, ((H.f6.f6.f6.f6.f6.f6).iP (e := 226) (sz := 1) none).iP none⟩ ?_
 rintro ⟨i, u1, u2⟩ w1 ⟨hi, HL⟩
 dsimp only [List.cons_append, List.nil_append]
 refine aP (bP O (nD O O (bD 0 jq O sizeOf167 O (fG gq O (HL.f3).get.2 O (aV (jk ((HL.f4).jy) gq O) (aV (iL O O) (jh O (fun h1 => ?_) (fun h1 => ?_))))))))
 ·(try simp only [Z] at h1)
  refine fZ (aP (aY (aP ?_)))
  have hil : i < A.length := by omega
  have hfi := hfl i
  have acC := acB i
  obtain ⟨xp, xv, xgs, hx⟩ : ∃ xp xv xgs, A.getD i default = (xp, xv, xgs) := ⟨_, _, _, rfl⟩
  refine aC (nD O O (bD 0 jq O sizeOf167 O (fG gq O (HL.f3).get.2 O (bQ O ?_))))
  obtain ⟨bpv, opv, cpv, epv⟩ := fP.pW ((HL.f4).jy) (by omega)
  cases epv
  refine aV (dI gq aj O O (by omega)) ?_
  refine aV (fA (dn aK O) O (by first | exact fP.lW ((HL.f4).jy) (by omega) | exact fP.wK ((HL.f4).jy) (by omega) | exact fP.wH ((HL.f4).jy) (by omega))) ?_
  rw [Ld hil, hx]
  dsimp only
  refine bQ O (aV (iO O O) (jh O (fun h2 => ?_) (fun h2 => ?_)))
  ·(try simp only [Z] at h2)
   have hne : ¬ xp = k := h2
   refine bP O (nD O O (bD 0 jq O sizeOf167 O (fG gq O (HL.f3).get.2 O (bQ O (aV (dI gq aj O O (by omega)) ?_)))))
   refine aV (fA (dn aK O) O (by first | exact fP.lW ((HL.f4).jy) (by omega) | exact fP.wK ((HL.f4).jy) (by omega) | exact fP.wH ((HL.f4).jy) (by omega))) ?_
   rw [Ld hil, hx]
   dsimp only
   refine jr (vT (k := .i64) (l := [_]) HL gq aj zeroValue3 O O O (by decide)) ?_
   rintro l2 w2 H2
   refine jr (lD H2.f2 ((H2).aS) gq acD O O (by first | omega | (simp only [List.length_append, List.length_nil, List.length_cons]; omega) | (simp; omega)) (by first | omega | (simp only [List.length_append, List.length_nil, List.length_cons]; omega) | (simp; omega))) ?_
   rintro l3 w3 H3
   try simp only [List.nil_append] at H3
   refine gJ O (aC (jJ O O (dJ O (bD 1 jq O sizeOf168 O (fG kL O (H3.f4).get.2 O (bQ O ?_))))))
   obtain ⟨bgv, ogv, cgv, egv⟩ := Rd.pW ((H3.f6).oD) (by omega)
   cases egv
   refine aV (dI kL eH O O (by omega)) ?_
   refine aV (fA (dn bf O) O (by first | exact Rd.lW ((H3.f6).oD) (by omega) | exact Rd.wK ((H3.f6).oD) (by omega) | exact Rd.wH ((H3.f6).oD) (by omega))) ?_
   rw [Rx hil, hx]
   dsimp only
   have O4 := H3.f7
   have Oy := O4.Rw hil hx
   refine jr (jQ (vs := [_]) Oy kL eH zeroValue226 O O O (by decide) (aW (by first | rfl | exact Rd.one ((Oy).oD)) bF)) ?_
   rintro l6 w6 H6
   refine jr (fQ H6.f7 kL WV O O O ((H6).aS) (aW (by first | rfl | exact Rd.one ((H6.f2).oD)) bF) (by omega) (by omega)) ?_
   rintro l7 w7 H7
   have Hd8 := H7.f2.right
   refine fU O (bM (aJ (aX (aC (bQ O (aV (gy O O (by omega)) (fU O (bM ?_))))))))
   refine dL ((i + 1, l3, l7)) ?_ ?_ ?_ ?_
   ·exact uM
   ·exact uM
   ·(try dsimp only)
    first | done | exact ⟨by omega, by rw [JL hil, hx]; dsimp only; first | (rw [if_pos (by simpa using hne)]; simp only [List.map_append, List.length_append]; exact Hd8.f2.right.f2.right.f4.right.f8.f8.f4.f8.f8.f8.f7.f8) | (rw [if_neg (by simpa using heq), List.append_nil]; exact Hd8.f2.right.f2.right.f4.right.f8.f8.f4.f8.f8.f8.f7.f8)⟩
   ·(try dsimp only); omega
  ·(try simp only [Z] at h2)
   have heq : xp = k := by have h9 := h2; omega
   refine bY (aJ (aX (aC (bQ O (aV (gy O O (by omega)) (fU O (bM ?_)))))))
   refine dL ((i + 1, u1, u2)) ?_ ?_ ?_ ?_
   ·exact uM
   ·exact uM
   ·(try dsimp only)
    first | done | exact ⟨by omega, by rw [JL hil, hx]; dsimp only; first | (rw [if_pos (by simpa using hne)]; simp only [List.map_append, List.length_append]; exact HL.f8.f8.f8.f8.f8.f8.f8.f8) | (rw [if_neg (by simpa using heq), List.append_nil]; exact HL.f8.f8.f8.f8.f8.f8.f8.f8)⟩
   ·(try dsimp only); omega
 ·(try simp only [Z] at h1)
  refine dB (aI (aI (aZ (aX ?_))))
  obtain rfl : i = A.length := by omega
  have HX := HL
  rw [List.take_length] at HX
  have hfi := hfl A.length
  have acC := acB A.length
  rw [List.take_length] at hfi acC
  refine aC (jJ O O (jJ O O (jr (vT (k := .i64) (l := [_]) HX gq aj zeroValue3 O O O (by decide)) ?_)))
  rintro l9 w9 H9
  refine jr (lD H9.f2 ((H9).aS) gq acD O O (by first | omega | (simp only [List.length_append, List.length_nil, List.length_cons]; omega) | (simp; omega)) (by first | omega | (simp only [List.length_append, List.length_nil, List.length_cons]; omega) | (simp; omega))) ?_
  rintro l10 w10 pV
  try simp only [List.nil_append] at pV
  refine jJ O O (jr (jQ (vs := [_]) pV kL eH zeroValue226 O O O (by decide) (aW (by first | rfl | exact Rd.one ((pV.f8).oD)) bF)) ?_)
  rintro l11 DU qo
  refine jr (fQ qo.f4 kL WV O O O ((qo).aS) (aW (by first | rfl | exact Rd.one ((qo.f9).oD)) bF) (by omega) (by omega)) ?_
  rintro l12 w12 um
  have acE := um.f2.right
  refine dJ O (bD 0 jq O sizeOf167 O (aH (eX 7 (l' := [_, _, _, _, _, _, _, _, _, _, _, _, _, _, _, _, _, _, _, _, _, _, _, _, _, _, _, _, _, _, _, _, _, _, _, _, _, _, _, _, _, _]) acE.f4 sizeOf167 O O (by first | rfl | exact Rd.one ((acE.f2).aS)) O O) ?_))
  rintro _ RV Ag
  refine dJ O (bD 1 jq O sizeOf168 O (aH (eX 8 (l' := [_, _, _, _, _, _, _, _, _, _, _, _, _, _, _, _, _, _, _, _, _, _, _, _, _, _, _, _, _, _, _, _, _, _, _, _, _, _, _, _, _, _]) Ag sizeOf168 O O (by first | rfl | exact Rd.one ((Ag.f2).aS)) O O) ?_))
  rintro _ Sr yM
  refine bM (lg (.inr O) results156 ?_)
  have hs1 : (yB A k u gs).map (·.1) = (A.filter fun x => x.1 != k).map (·.1) ++ [k] := by unfold yB; rw [List.map_append]; rfl
  have hs2 : (yB A k u gs).map (·.2.1) = (A.filter fun x => x.1 != k).map (·.2.1) ++ [u] := by unfold yB; rw [List.map_append]; rfl
  have hs3 : (yB A k u gs).length = (A.filter fun x => x.1 != k).length + 1 := by unfold yB; rw [List.length_append]; rfl
  have HQ := (yM.f4.right.f4.right.f4.right.f2.f3.f6.f6.f6).WM (p := k) |>.f2.oI.f3.Ed.f4.f3.f2
  exact ⟨_, _, by rw [hs1, hs2, hs3]; exact HQ⟩
end
section
variable {w0 w : World} {F : HP} {y : Nat} {s : dF} {x : Int} {b : Bool}
theorem Le (H : V w0 w (oH y s • F)) : gI prog 63 #[.pointer (some ⟨y, 0, none⟩), .int .i64 x] w fun v w' => v = .int .i64 (s.ru x) ∧ V w0 w' (oH y (s.yg x) • F) := by
 refine oq func63 ntmps63 ?_
 refine jg O (aP (aP ?_))
 obtain ⟨Xk, IG, II, IJ, IK, TM, TN, A_y, TP, TQ, Oe, Og, Oh, IL, IQ, IU, IV, IW, IX, IY, IZ, I4, I5, I7, I8, oU, BR, uD⟩ := (H).Oa
 refine aC (nD O O (bD 32 aN O aO O (fG bK O (uD).get.2 O (aV (lY O) (jP O (fun h1 => ?_) (fun h1 => ?_))))))
 ·(try simp only [Z] at h1)
  refine bI (bI (jF O O (bQ O (bI (bI (jF O O (iJ (EK (jC O (aF (dG results63 O ?_)))))))))))
  have hd : s.ru x = 1 := by
   unfold dF.ru
   by_cases hin : s.inn = true
   ·rw [if_pos hin, if_pos (by first | omega | (exfalso; simp_all))]
   ·rw [if_neg hin]
  have SA := uD.f12.f12.f12.f12.f12.f12.f12.f12.f12.f12.f12.f12
  have QJ := V.rD (s := s) oU SA
  exact ⟨by rw [hd], by unfold dF.yg; rw [if_neg (by rw [hd]; decide)]; exact QJ⟩
 ·(try simp only [Z] at h1)
  refine bC (bQ O (bC (aV (iL O O) (iM O O (jP O (fun h2 => ?_) (fun h2 => ?_))))))
  ·(try simp only [Z] at h2)
   refine bI (bI (jF O O (iJ (EK (jC O (aF (dG results63 O ?_)))))))
   have hd : s.ru x = 1 := by
    unfold dF.ru
    by_cases hin : s.inn = true
    ·rw [if_pos hin, if_pos (by first | omega | (exfalso; simp_all))]
    ·rw [if_neg hin]
   have XT := uD.f12.f12.f12.f12.f12.f12.f12.f12.f12.f12.f12.f12
   have XU := V.rD (s := s) oU XT
   exact ⟨by rw [hd], by unfold dF.yg; rw [if_neg (by rw [hd]; decide)]; exact XU⟩
  ·(try simp only [Z] at h2)
   refine bC (bQ O (bC (aV (iV O O) (iM O O (jh O (fun h3 => ?_) (fun h3 => ?_))))))
   ·(try simp only [Z] at h3)
    refine jC O (aF (dG results63 O ?_))
    have hd : s.ru x = 1 := by
     unfold dF.ru
     by_cases hin : s.inn = true
     ·rw [if_pos hin, if_pos (by first | omega | (exfalso; simp_all))]
     ·rw [if_neg hin]
    have Ho9 := uD.f12.f12.f12.f12.f12.f12.f12.f12.f12.f12.f12.f12
    have aaL := V.rD (s := s) oU Ho9
    exact ⟨by rw [hd], by unfold dF.yg; rw [if_neg (by rw [hd]; decide)]; exact aaL⟩
   ·(try simp only [Z] at h3)
    refine fZ (aP ?_)
    have hin : s.inn = true := by first | assumption | (simp_all; done)
    have hd : s.ru x = 0 := by unfold dF.ru; rw [if_pos hin, if_neg (by omega)]
    refine aC (jJ O O (dJ O (bD 1 aN O dY O (bD 8 cO O aj O (aH (kR 9 uD aj) ?_)))))
    rintro _ DU qo
    refine iJ (jC O (dG results63 O ?_))
    rw [hd]
    refine ⟨O, ?_⟩
    unfold dF.yg
    rw [if_pos hd]
    exact V.rD (s := { s with c := { s.c with mode := x } }) ⟨oU.ok, oU.rx, oU.says, oU.EU, oU.placed, oU.WU⟩ qo.f12.f12.f12.f12.f12.f12.f12.f12.f12.f12.f12.f12
end
end Go.Proofs.YtpdeedplgmbopaaGreatDoor
end
section
namespace Go.Proofs.YtpdeedplgmbopaaGreatDoor
open Go.RowKit
section
variable {w0 w : World} {F : HP} {e h : Nat} {hl : List pz} {base most : Int}
end
section
variable {w0 w : World} {F : HP} {l : List pz} {v : Value}
end
end Go.Proofs.YtpdeedplgmbopaaGreatDoor
end
section
namespace Go.Proofs.YtpdeedplgmbopaaGreatDoor
open Go.RowKit
open _root_.Go.Proofs.Tryz
section
variable {w0 w : World} {F : HP} {p y h : Nat} {L : List Int} {pt mk n : Int} {E : List (List Int)} {place : Nat} {s : dF} {l : List Int} {v wv nv : Value} {m : Nat} {xs ys : List Value}
theorem Lh (H : V w0 w (nR p L pt mk • F)) : gI prog 152 #[.pointer (some ⟨p, 0, none⟩)] w fun v w' => ∃ q, v = .pointer (some ⟨q, 0, none⟩) ∧ V w0 w' (nR q L pt mk • nR p L pt mk • F) := by
 refine gG func152 ntmps152 ?_
 refine jg O (aP ?_)
 obtain ⟨afb, afc, acF, acG, acH, afd, afe, ad5⟩ := (H).ref
 refine aC (vk O ?_)
 have P9 := ad5.drew
 have lQ := V.kp (P9.f2.f2)
 refine yC [4, 9, 13] lQ O (jG 0 O lQ O (jG 1 O lQ O (kD 2 O lQ O (gV 3 O lQ 0 underlying222 O dH O (jS 4 O lQ (fun W hW => jX aB O ((Kp.h hW)).get.2 O) (jG 6 O lQ O (kD 7 O lQ O (gV 8 O lQ 1 underlying222 O aj O (jS 9 O lQ (fun W hW => jX aK O ((Kp.h hW)).get.2 O) (jG 10 O lQ O (kD 11 O lQ O (gV 12 O lQ 2 underlying222 O aj O (jS 13 O lQ (fun W hW => jX aK O ((Kp.h hW)).get.2 O) (og 5 O (lD (l := []) (P9.iP none) ((P9.f2).aS) aB WR O O (by first | omega | (simp only [List.length_append, List.length_nil, List.length_cons]; omega) | (simp; omega)) (by first | omega | (simp only [List.length_append, List.length_nil, List.length_cons]; omega) | (simp; omega))) ?_))))))))))))))
 rintro l2 w2 H2
 try simp only [List.nil_append] at H2
 have xw := V.kp (H2.f3.f3.f3)
 refine dU xw (fun W hW => (Kp.h hW).right.f2.f2) ?_
 refine jB 14 O xw (fun _ => dP (zl := [.slice none 0 0, .int .i64 0, .int .i64 0]) (pl := [(0, 1), (1, 1), (2, 1)]) [_, _, _] underlying222 zeroValue222 O (fun w => by kernel_rfl) O (.one (Rd.one ((H2).aS)) (.on (.on .nil))) O) ?_
 refine og 15 O (iD (l := [_, _, _]) H2 O O) ?_
 rintro _ w3 ⟨b3, rfl, H3⟩
 have yJ := V.kp (H3.f4.f4.f4.f4)
 refine gW yJ (by kernel_rfl) ?_
 refine jB 16 O yJ (fun _ => dN O) (qR (aX (mD (dG results152 O ?_))))
 have ZQ := H3.f4.f4
 have ZR := V.Qp acF acG acH ZQ
 exact ⟨_, O, V.Qp acF acG acH ZR.f3.f3⟩
theorem Ia (H : V w0 w (lV p E place • F)) (hE : E.length ≤ 60 ∧ (place < E.length ∨ place = 0) ∧ ∀ e ∈ E, e.length ≤ 1024) : gI prog 153 #[.pointer (some ⟨p, 0, none⟩)] w fun v w' => ∃ q, v = .pointer (some ⟨q, 0, none⟩) ∧ V w0 w' (lV q E place • lV p E place • F) := by
 obtain ⟨u, HR⟩ := H.acA
 obtain ⟨us, HR⟩ := HR.swap.ll
 obtain ⟨au, cu, rfl, -⟩ := (HR.aS).form
 have hE1 : E.length ≤ 60 := hE.1
 have hE2 : ∀ k, (E.getD k []).length ≤ 1024 := VZ hE.2.2
 refine gG func153 ntmps153 ?_
 refine jg O (jg O (aP (jg O (aY ?_))))
 refine fF [(0, _)] (fun (⟨k, z⟩ : Nat × Value) => [(3, z), (4, .int .i64 (k : Int))]) (fun (⟨k, z⟩ : Nat × Value) W => k ≤ E.length ∧ ∃ zs, V w0 W (Row 22 1 z k zs • zG .i32 zs (E.take k) • Row 22 1 (.slice au E.length cu) E.length us • zG .i32 us E • dK p (.cells #[.slice au E.length cu, .int .i64 place] 176 (0, 0)) • F)) (fun (⟨k, z⟩ : Nat × Value) => E.length - k) ((0, .slice none 0 0)) lI qB ⟨by omega, [], (HR.f3.f3.f3).LZ.iP none⟩ ?_
 rintro ⟨k, z⟩ w1 ⟨hk, zs, HL⟩
 dsimp only [List.cons_append, List.nil_append]
 obtain ⟨az, cz, rfl, -⟩ := (HL.aS).form
 refine aP (bP O (nD O O (bD 0 underlying176 O sizeOf47 O (fG iK O (HL.f5).get.2 O (aV (jw ((HL.f3).aS) iK O) (aV (iL O O) (jh O (fun h1 => ?_) (fun h1 => ?_))))))))
 ·(try simp only [Z] at h1)
  refine fZ (aP (aY ?_))
  have hkl : k < E.length := by omega
  have hek := hE2 k
  refine aC (jJ O O (dJ O (bD 0 underlying176 O sizeOf47 O (fG iK O (HL.f5).get.2 O (bQ O ?_)))))
  obtain ⟨bu, ou, cu, eu⟩ := Rd.pW ((HL.f3).aS) (by omega)
  cases eu
  refine aV (dI iK dH O O (by omega)) ?_
  refine aV (fA (dn aB O) O (by first | exact Rd.lW ((HL.f3).aS) (by omega) | exact Rd.wK ((HL.f3).aS) (by omega) | exact Rd.wH ((HL.f3).aS) (by omega))) ?_
  refine ZA (fun aeC aaM => ?_)
  refine dS O func181 (TG HL (fun W HW => (by rw [aaM]; exact (HW.f4).XK (by omega))) (by omega)) ?_
  rintro u3 w3 H3
  have Hf4 := H3.oI
  refine jr (jQ (vs := [_]) Hf4 iK dH zeroValue22 O O O (by decide) (aW (by first | rfl | exact Rd.one ((Hf4).jy)) bF)) ?_
  rintro l5 w5 H5
  refine jr (fQ H5.f3 iK Zn O O O ((H5).aS) (aW (by first | rfl | exact Rd.one ((H5.f2).jy)) bF) (by omega) (by omega)) ?_
  rintro l6 w6 H6
  have Z4 := H6.f2.right
  refine fU O (bM (aJ (aX (aC (bQ O (aV (gy O O (by omega)) (fU O (bM ?_))))))))
  have HS := (Z4.f6.f6.f6.f4.f5.f6).Sm.f2
  refine dL ((k + 1, l6)) ?_ ?_ ?_ ?_
  ·exact qB
  ·exact lI
  ·(try dsimp only)
   first | done | exact ⟨by omega, _, by rw [Hz (d := []) hkl]; exact HS⟩
  ·(try dsimp only); omega
 ·(try simp only [Z] at h1)
  refine dB (aI (aI (aZ (aX (bP O (nD O O (bD 1 underlying176 O aj O (fG aK O (HL.f5).get.2 O ?_))))))))
  refine aV (dP (zl := [.slice none 0 0, .int .i64 0]) (pl := [(0, 1), (1, 1)]) [_, _] underlying176 zeroValue176 O (fun w => by kernel_rfl) O (.one (Rd.one ((HL).aS)) (.on .nil)) O) ?_
  refine jr (iD (l := [_, _]) HL O O) ?_
  rintro _ w8 ⟨b8, rfl, H8⟩
  refine eY O (dG results153 O ?_)
  have HL2 := V.UF (H8.f6.f6.f6.f4.f6.f6)
  rw [List.take_of_length_le (by omega)] at HL2
  have HL3 := V.Hy HL2.f2
  exact ⟨_, O, (V.Hy (V.UF HL3.f3.f3).f3).f2⟩
theorem Ib {x : Int} (H : V w0 w (dK p (.cells #[wv, nv, .int .i64 x] 166 (0, 0)) • Row 9 1 nv m ys • uh 1 wv m xs • F)) (hy : ∀ u ∈ ys, u.oneCell' = true) (hm : m ≤ 4097) : gI prog 154 #[.pointer (some ⟨p, 0, none⟩)] w fun v w' => ∃ q nv', v = .pointer (some ⟨q, 0, none⟩) ∧
  V w0 w' (dK q (.cells #[wv, nv', .int .i64 x] 166 (0, 0)) • Row 9 1 nv' m ys • dK p (.cells #[wv, nv, .int .i64 x] 166 (0, 0)) • Row 9 1 nv m ys • uh 1 wv m xs • F) := by
 refine gG func154 ntmps154 ?_
 refine jg O (aP ?_)
 have PV := H.drew
 have mg := V.kp (PV.f3.f3.f3)
 refine yC [3, 7, 12] mg O (jG 0 O mg O (kD 1 O mg O (gV 2 O mg 0 fK O sizeOf33 O (jS 3 O mg (fun W hW => jX ig O ((Kp.h hW)).get.2 O) (jG 4 O mg O (kD 5 O mg O (gV 6 O mg 1 fK O sizeOf33 O (jS 7 O mg (fun W hW => jX ig O ((Kp.h hW)).get.2 O) (jG 9 O mg O (kD 10 O mg O (gV 11 O mg 2 fK O aj O (jS 12 O mg (fun W hW => jX aK O ((Kp.h hW)).get.2 O) (og 8 O (fQ (PV.iP none) ig X7 O O O ((PV.f2).aS) (by assumption) (by omega) (by omega)) ?_)))))))))))))
 rintro l1 w1 H1
 have acI := V.kp (H1.f4.f4.f4.f4)
 refine dU acI (fun W hW => (Kp.h hW).right.f3.f3.f3) ?_
 refine jB 13 O acI (fun _ => dP (zl := [.slice none 0 0, .slice none 0 0, .int .i64 0]) (pl := [(0, 1), (1, 1), (2, 1)]) [_, _, _] fK zeroValue166 O (fun w => by kernel_rfl) O (.one (Rd.one ((H1.f4).oD)) (.one (Rd.one ((H1).aS)) (.on .nil))) O) ?_
 refine og 14 O (iD (l := [_, _, _]) H1 O O) ?_
 rintro _ w2 ⟨b2, rfl, H2⟩
 have xw := V.kp (H2.f5.f5.f5.f5.f5)
 refine gW xw (by kernel_rfl) ?_
 refine jB 15 O xw (fun _ => dN O) (qR (aX (mD (dG results154 O ?_))))
 have HQ := H2.f5.f5.f5.f5.f5
 simp only [Nat.zero_add, List.nil_append] at HQ
 exact ⟨_, _, O, HQ⟩
theorem Oi {pb pk : Nat} {pv gv : Value} {x md rs : Int} {t : ByteArray} {ov rn : Bool} (H : V w0 w (nR pb L pt mk • lV pk E place • Row 9 1 nv m ys • uh 1 wv m xs • F)) (hE : E.length ≤ 60 ∧ (place < E.length ∨ place = 0) ∧ ∀ e ∈ E, e.length ≤ 1024) (hy : ∀ u ∈ ys, u.oneCell' = true) (hm : m ≤ 4097) (o1 : pv.oneCell' = true) (o2 : gv.oneCell' = true) :
  gI prog 115 #[.agg #[.pointer (some ⟨pb, 0, none⟩), .pointer (some ⟨pk, 0, none⟩), wv, nv, .int .i64 x, .string t, pv, gv, .int .i64 md, .bool ov, .int .i64 rs, .bool rn]] w fun v w' => ∃ qb qk nv',
   v = .agg #[.pointer (some ⟨qb, 0, none⟩), .pointer (some ⟨qk, 0, none⟩), wv, nv', .int .i64 x, .string t, pv, gv, .int .i64 md, .bool ov, .int .i64 rs, .bool rn] ∧
   V w0 w' (nR qb L pt mk • lV qk E place • Row 9 1 nv' m ys • nR pb L pt mk • lV pk E place • Row 9 1 nv m ys • uh 1 wv m xs • F) := by
 refine gG func115 ntmps115 ?_
 refine iE (jr (iD (l := [_, _, _, _, _, _, _, _, _, _, _, _]) H O O) ?_)
 rintro _ w1 ⟨b1, rfl, H1⟩
 refine jr (fH (l := [_, _, _, _, _, _, _, _, _, _, _, _]) H1 zeroValue172 O) ?_
 rintro _ w2 ⟨b2, rfl, H2⟩
 refine Xg (bD 0 cO O sizeOf163 O (fG underlying163 O (H2.f2).get.2 O (dS O func152 (Lh H2.f3) ?_)))
 rintro _ w3 ⟨q3, rfl, H3⟩
 refine bD 0 cO O sizeOf163 O (aH (eX 0 (l' := [_, _, _, _, _, _, _, _, _, _, _, _]) H3.f4 sizeOf163 O O (by first | rfl | assumption) O O) ?_)
 rintro _ w4 H4
 refine Xg (bD 1 cO O sizeOf164 O (fG underlying164 O (H4).get.2 O (dS O func153 (Ia H4.f5 (by assumption)) ?_)))
 rintro _ w5 ⟨q5, rfl, H5⟩
 refine bD 1 cO O sizeOf164 O (aH (eX 1 (l' := [_, _, _, _, _, _, _, _, _, _, _, _]) H5.f3 sizeOf164 O O (by first | rfl | assumption) O O) ?_)
 rintro _ w6 H6
 refine Xg (bD 2 cO O ni O (aV (nS 2 (xs := [_, _, _]) fK O ni O O (H6).get.2 O) (jr (fH (l := [_, _, _]) H6 zeroValue166 O) ?_)))
 rintro _ w7 ⟨b7, rfl, H7⟩
 refine aH (bU 0 (l' := [_, _, _]) (us := [_, _, _]) H7 ni O O O (aW (by first | rfl | exact Rd.one ((H7.f9).oD)) (aW (by first | rfl | exact Rd.one ((H7.f8).aS)) (ay bF))) O O) ?_
 rintro _ w8 H8
 refine Xg (dS O func154 (Ib H8.f9.f9.f3 (by assumption) (by omega)) ?_)
 rintro _ w9 ⟨q9, nv9, rfl, H9⟩
 refine dJ O (aV (eU fK O ni O O (H9).get.2) (bD 2 cO O ni O (aH (bU 2 (l' := [_, _, _, _, _, _, _, _, _, _, _, _]) (us := [_, _, _]) H9.f6 ni O O O (aW (by first | rfl | exact Rd.one ((H9.f5).oD)) (aW (by first | rfl | exact Rd.one ((H9.f2).aS)) (ay bF))) O O) ?_)))
 rintro _ w10 pV
 refine Xg (aV (eU cO O dY O O (pV).get.2) (aH (bU 0 (l' := [_, _, _, _, _, _, _, _, _, _, _, _]) (us := [_, _, _, _, _, _, _, _, _, _, _, _]) pV.f11 dY O O O (ay (ay (aW (by first | rfl | exact Rd.one ((pV.f6).oD)) (aW (by first | rfl | exact Rd.one ((pV.f3).aS)) (ay (ay (ay (ay (ay (ay (ay (ay bF)))))))))))) O O) ?_))
 rintro _ DU qo
 refine YW ?_
 refine pO (.inl O) (JX results115 O cO O (by rw [aaN]; rfl) (qo).get.2) ?_
 exact ⟨_, _, _, O, qo.right.right.right.f2.right.f3.f3.f5.f7.f5.f6.f7⟩
theorem V.YB {k : IntKind} (H : V w0 w (mO k v l • F)) : V w0 w (mO k v l • mO k v l • F) := H.qO
theorem V.YC {A : List LE} (H : V w0 w (pU A • F)) : V w0 w (pU A • pU A • F) := H.qO
theorem V.Ry {h pb pk : Nat} {wv nv pv gv : Value} {A : List LE} {yf yt : Int} {ch : Bool} {u0 u1 u2 u3 u4 u5 u6 u7 u8 u9 ua ub : Value} (h1 : jO s [] A yf yt) (H : V w0 w (dK y (.cells (.pointer (some ⟨h, 0, none⟩) :: .pointer (some ⟨pb, 0, none⟩) :: .pointer (some ⟨pk, 0, none⟩) :: wv :: nv :: .int .i64 s.c.place :: .string (jm s.hl s.c.tx s.c.place) :: pv :: gv :: .int .i64 s.c.mode :: .bool s.c.over :: .int .i64 s.c.res :: .bool s.c.run :: u0 :: u1 :: u2 :: u3 :: u4 :: u5 :: u6 :: u7 :: u8 :: u9 :: ua :: ub :: .bool s.given :: .bool s.minus :: .int .i64 s.arg :: .int .i64 s.y9 :: .int .i64 s.Ua :: .int .i64 s.Ub :: .int .i64 s.qL :: .bool s.inn :: .int .i64 s.cls :: .int .i64 yf :: .int .i64 yt :: .bool s.argues :: .bool s.killed :: .bool s.lu :: .slice none 0 0 :: .bool s.whole :: .bool ch :: []).toArray 174 (0, 0)) • nR pb s.c.L s.c.pt s.c.mark • lV pk s.c.E s.c.at_ • uh 1 wv (s.hl.length + 1) (strs (nO s.hl)) • Row 9 1 nv (s.hl.length + 1) (strs (tY s.hl s.c.tx)) • mO .i64 pv (A.map (·.1)) • uh 1 gv A.length (A.map (·.2.1)) • pU A • iZ h s.hl s.base s.most • AL s.inn s.hl s.was [u0, u1, u2, u3, u4, u5, u6, u7, u8, u9, ua, ub] • F)) : V w0 w (oH y s • F) := by
  refine V.rD (y := y) (h := h) (pb := pb) (pk := pk) (wv := wv) (nv := nv) (pv := pv) (gv := gv) (ch := ch) (u0 := u0) (u1 := u1) (u2 := u2) (u3 := u3) (u4 := u4) (u5 := u5) (u6 := u6) (u7 := u7) (u8 := u8) (u9 := u9) (ua := ua) (ub := ub) (nw := .slice none 0 0) (es := []) h1 ?_
  rw [← h1.says]
  exact (H.qY none).of_eq (by unfold Jp; simp only [List.length_nil, List.flatMap_nil, List.map_nil]; ac_rfl)
theorem V.Rz {h pb pk : Nat} {wv nv pv gv : Value} {A : List LE} {yf yt : Int} {ch : Bool} {u0 u1 u2 u3 u4 u5 u6 u7 u8 u9 ua ub : Value} (h1 : jO s [] A yf yt) (hi : s.inn = false) (H : V w0 w (dK y (.cells (.pointer (some ⟨h, 0, none⟩) :: .pointer (some ⟨pb, 0, none⟩) :: .pointer (some ⟨pk, 0, none⟩) :: wv :: nv :: .int .i64 s.c.place :: .string (jm s.hl s.c.tx s.c.place) :: pv :: gv :: .int .i64 s.c.mode :: .bool s.c.over :: .int .i64 s.c.res :: .bool s.c.run :: u0 :: u1 :: u2 :: u3 :: u4 :: u5 :: u6 :: u7 :: u8 :: u9 :: ua :: ub :: .bool s.given :: .bool s.minus :: .int .i64 s.arg :: .int .i64 s.y9 :: .int .i64 s.Ua :: .int .i64 s.Ub :: .int .i64 s.qL :: .bool false :: .int .i64 s.cls :: .int .i64 yf :: .int .i64 yt :: .bool s.argues :: .bool s.killed :: .bool s.lu :: .slice none 0 0 :: .bool s.whole :: .bool ch :: []).toArray 174 (0, 0)) • nR pb s.c.L s.c.pt s.c.mark • lV pk s.c.E s.c.at_ • uh 1 wv (s.hl.length + 1) (strs (nO s.hl)) • Row 9 1 nv (s.hl.length + 1) (strs (tY s.hl s.c.tx)) • mO .i64 pv (A.map (·.1)) • uh 1 gv A.length (A.map (·.2.1)) • pU A • iZ h s.hl s.base s.most • F)) (hu : ([u0, u1, u2, u3, u4, u5, u6, u7, u8, u9, ua, ub].all fun x => x.oneCell') = true) : V w0 w (oH y s • F) := by
  refine V.Ry (y := y) (h := h) (pb := pb) (pk := pk) (wv := wv) (nv := nv) (pv := pv) (gv := gv) (ch := ch) (u0 := u0) (u1 := u1) (u2 := u2) (u3 := u3) (u4 := u4) (u5 := u5) (u6 := u6) (u7 := u7) (u8 := u8) (u9 := u9) (ua := ua) (ub := ub) h1 ?_
  rw [hi]
  exact (H.Dv (hl := s.hl) (c := s.was) (u := [u0, u1, u2, u3, u4, u5, u6, u7, u8, u9, ua, ub]) hu).of_eq (by ac_rfl)
theorem I9 (H : V w0 w (oH y s • F)) : gI prog 61 #[.pointer (some ⟨y, 0, none⟩)] w fun v w' => v = .int .i64 s.BA ∧ V w0 w' (oH y s.jW • F) := by
 refine gG func61 ntmps61 ?_
 refine jg O (aP (aP ?_))
 obtain ⟨Xk, IG, II, IJ, IK, TM, TN, A_y, TP, TQ, Oe, Og, Oh, IL, IQ, IU, IV, IW, IX, IY, IZ, I4, I5, I7, I8, oU, BR, uD⟩ := (H).Oa
 have hE9 := oU.rx.1.2
 have hy9 := @Jz (tY s.hl s.c.tx)
 obtain ⟨hv9, hk9, _⟩ := (uD.f9).Q5
 have hhl := hk9.1
 have o1 := (uD.f6).jy.one
 have o2 := (uD.f7).oD.one
 refine aC (nD O O (bD 32 aN O aO O (fG bK O (uD).get.2 O (jh O (fun h1 => ?_) (fun h1 => ?_)))))
 ·(try simp only [Z] at h1)
  have hin := h1
  refine jC O (aF (dG results61 O ?_))
  have SA := uD.f12.f12.f12.f12.f12.f12.f12.f12.f12.f12.f12.f12
  have QJ := V.rD (s := s) oU SA
  exact ⟨by unfold dF.BA; rw [if_pos hin], by rw [GX hin]; exact QJ⟩
 ·(try simp only [Z] at h1)
  have hin := h1
  refine fZ (bP O (dJ O (bD 32 aN O aO O (aH (kR 32 uD aO) ?_))))
  rintro _ w5 H5
  refine qH O (nD O O (bD 1 aN O dY O (aV (nS 1 (xs := [_, _, _, _, _, _, _, _, _, _, _, _]) cO O dY O O (H5).get.2 O) (dS O func115 (Oi H5.f4.f5.f5.f5 (by assumption) (by assumption) (by omega) (by assumption) (by assumption)) ?_))))
  rintro _ w6 ⟨qb6, qk6, nv6, rfl, H6⟩
  refine dJ O (bD 13 aN O dY O (aH (bU 13 (l' := [_, _, _, _, _, _, _, _, _, _, _, _, _, _, _, _, _, _, _, _, _, _, _, _, _, _, _, _, _, _, _, _, _, _, _, _, _, _, _, _, _, _]) (us := [_, _, _, _, _, _, _, _, _, _, _, _]) H6.f8 dY O O O (ay (ay (aW (by first | rfl | exact Rd.one ((H6.f7).oD)) (aW (by first | rfl | exact Rd.one ((H6.f3).aS)) (ay (ay (aW (by first | rfl | exact Rd.one ((H6.f9).jy)) (aW (by first | rfl | exact Rd.one ((H6.f10).oD)) (ay (ay (ay (ay bF)))))))))))) O O) ?_))
  rintro _ w7 H7
  refine qH O (jJ O O (dJ O (bD 33 aN O aj O (aH (kR 33 H7 aj) ?_))))
  rintro _ w8 H8
  refine dJ O (bD 34 aN O aj O (aH (kR 34 H8 aj) ?_))
  rintro _ w9 H9
  refine dJ O (bD 35 aN O aj O (aH (kR 35 H9 aj) ?_))
  rintro _ w10 pV
  refine qH O (jJ O O (jJ O O (dJ O (bD 36 aN O aO O (aH (kR 36 pV aO) ?_)))))
  rintro _ DU qo
  refine dJ O (bD 37 aN O aO O (aH (kR 37 qo aO) ?_))
  rintro _ w12 um
  refine dJ O (bD 38 aN O aO O (aH (kR 38 um aO) ?_))
  rintro _ Oz uS
  refine dJ O (bD 40 aN O aO O (aH (kR 40 uS aO) ?_))
  rintro _ RV Ag
  refine dJ O (bD 41 aN O aO O (aH (kR 41 Ag aO) ?_))
  rintro _ Sr yM
  refine qH O (dJ O (bD 39 aN O bH O (aH (kR 39 yM bH) ?_)))
  rintro _ w16 yH
  refine iJ (jC O (dG results61 O ?_))
  have hin' : s.inn = false := by simpa using hin
  have Px := yH.f8
  have Py := Px.WJ
  have ad6 := Py.f10
  have ad7 := ad6.YB
  have aaC := ad7.f12
  have aaD := aaC.WJ
  have VJ := aaD.f14
  have VK := VJ.YC
  have aaO := VK.f2.f4.f6.f12.f9.f12.f12
  have aaP := V.YA (c := s.c) oU.EU oU.placed aaO
  have HX := aaP.f11.right.f11.right.f11.right.f10.f3.f4.f5.f10.f7.f10.f10.f10
  rw [show s.y9 = s.c.last from if_neg (by simp [hin']), show s.Ua = s.c.fr from if_neg (by simp [hin']), show s.Ub = s.c.to from if_neg (by simp [hin'])] at HX
  exact ⟨by unfold dF.BA; rw [if_neg (by simp [hin'])], by rw [vG hin']; exact V.Ry (vG hin' ▸ oU.begin hin') HX⟩
end
end Go.Proofs.YtpdeedplgmbopaaGreatDoor
end
section
namespace Go.Proofs.YtpdeedplgmbopaaGreatDoor
open Go.RowKit
section
variable {w0 w : World} {F : HP} {p y h : Nat} {s : dF} {l dl il : List Int} {v d i : Value} {a x j k : Int}
end
section
variable {w0 w : World} {F : HP} {p y h : Nat} {s : dF} {l : List Int} {v : Value} {j k : Int}
theorem jO.cls {es : List dQ} {A : List LE} {yf yt : Int} (h : jO s es A yf yt) (c : Int) (hc : c ≠ 2) : jO { s with cls := c } es A yf yt :=
  ⟨h.ok, ⟨h.rx.1, h.rx.2.1, fun _ h2 => absurd h2 hc⟩, h.says, h.EU, h.placed, h.WU⟩
end
end Go.Proofs.YtpdeedplgmbopaaGreatDoor
end
