import Derived.Test.YtpdeedplgmbopaaGreatDoorZ4
import Derived.Test.YtpdeedplgmbopaaGreatDoorZ18
import Derived.Test.YtpdeedplgmbopaaGreatDoorZ6
import Derived.Test.YtpdeedplgmbopaaGreatDoorZ5
import Derived.Test.YtpdeedplgmbopaaGreatDoorZ13
import Derived.Test.YtpdeedplgmbopaaGreatDoorZ15
import Derived.Test.YtpdeedplgmbopaaGreatDoorZ11
set_option linter.unusedSimpArgs false
set_option linter.unusedVariables false
/- Texts of mine, joined, their names in short: Ref7b BufAny Ref7c RefAny RefRing REd EdSt REdX RLs2 REdA REd0 EBoth0 REdB REdR REdT. -/
section
namespace Go.Proofs.YtpdeedplgmbopaaGreatDoor
open Go.RowKit
section
variable {w0 w : World} {F : HP} {p : Nat} {L : List Int} {pt mk x : Int} {v : Value} {l : List Int}
end
end Go.Proofs.YtpdeedplgmbopaaGreatDoor
end
section

end
section
namespace Go.Proofs.YtpdeedplgmbopaaGreatDoor
open Go.RowKit
section
variable {w0 w : World} {F : HP} {p : Nat} {L : List Int} {pt mk x : Int} {v : Value} {l : List Int}
end
section
variable {w0 w : World} {F : HP} {p : Nat} {L : List Int} {pt mk : Int} {v d s : Value} {l dl il : List Int} {i j a x : Int}
end
end Go.Proofs.YtpdeedplgmbopaaGreatDoor
end
section
namespace Go.Proofs.YtpdeedplgmbopaaGreatDoor
open Go.RowKit
open _root_.Go.Proofs.Tryz
section
variable {w0 w : World} {F : HP} {p place : Nat} {E ls : List (List Int)} {v x y : Value} {l m : List Int} {vs : List Value}
theorem XT (H : V w0 w F) (h1 : jE w0 F .i32 x l) (h2 : jE w0 F .i32 y m) (hb : l.length + m.length ≤ 35184372088832) :
    ig prog 181 #[x, y] w fun v w' => V w0 w' (lD 21 .i32 v (l ++ m) • F) := by
  refine nC func181 ntmps181 ?_
  refine jy O (jy O (bM O (bG O (jL (lV (l := []) (H.jk none) (h1 _ (H)) aj XU O O (by first | omega | (simp only [List.length_append, List.length_nil, List.length_cons]; omega) | (simp; omega)) (by first | omega | (simp only [List.length_append, List.length_nil, List.length_cons]; omega) | (simp; omega))) ?_))))
  rintro l1 w1 H1
  try simp only [List.nil_append] at H1
  refine fV O (bM O (bG O (jL (lV H1 (h2 _ (H1.right)) aj XU O O (by first | omega | (simp only [List.length_append, List.length_nil, List.length_cons]; omega) | (simp; omega)) (by first | omega | (simp only [List.length_append, List.length_nil, List.length_cons]; omega) | (simp; omega))) ?_)))
  rintro l2 w2 H2
  try simp only [List.nil_append] at H2
  refine dU O (dF results181 O ?_)
  simpa using H2
theorem UH (H : V w0 w F) (h1 : jE w0 F .i32 x l) (hb : l.length ≤ 35184372088832) :
    ig prog 181 #[x, .slice none 0 0] w fun v w' => V w0 w' (lD 21 .i32 v l • F) := by
  have := XT H h1 (fun W _ => dR.nil W .i32 none 0 (by decide)) (by simpa using hb)
  simpa using this
def mQ (p : Nat) (E : List (List Int)) (place : Nat) : HP := uf fun v => dS p (.cells #[v, .int .i64 place] 176 (0, 0)) • LL 22 .i32 v E
theorem V.adf (H : V w0 w (mQ p E place • F)) : ∃ v, V w0 w (dS p (.cells #[v, .int .i64 place] 176 (0, 0)) • LL 22 .i32 v E • F) := let ⟨v, h⟩ := H.lZ; ⟨v, h.flat⟩
theorem V.Je (H : V w0 w (dS p (.cells #[v, .int .i64 place] 176 (0, 0)) • LL 22 .i32 v E • F)) : V w0 w (mQ p E place • F) := V.iV v H.deep
theorem Jf {α : Type _} {l : List α} {k : Nat} {d : α} (h : k < l.length) : l.take (k + 1) = l.take k ++ [l.getD k d] := by rw [List.take_succ_eq_append_getElem h, List.getD_eq_getElem?_getD, List.getElem?_eq_getElem h]; rfl
end
end Go.Proofs.YtpdeedplgmbopaaGreatDoor
end
section
namespace Go.Proofs.YtpdeedplgmbopaaGreatDoor
open Go.RowKit
def vT (hl : List qQ) (tx : Int → Option ByteArray) : List ByteArray := (List.range (hl.length + 1)).map fun (k : Nat) => jS hl tx (k : Int)
theorem E8 (hl : List qQ) (tx : Int → Option ByteArray) : (vT hl tx).length = hl.length + 1 := by simp [vT]
theorem BR (hl : List qQ) : (oM hl).length = hl.length + 1 := by simp [oM]
theorem XV {hl : List qQ} {tx : Int → Option ByteArray} {k : Nat} (hk : k ≤ hl.length) : (vT hl tx).getD k .empty = jS hl tx k := by
  unfold vT
  rw [List.getD_eq_getElem?_getD, List.getElem?_map, List.getElem?_range (by omega)]; rfl
theorem XW {hl : List qQ} {k : Nat} (hk : k ≤ hl.length) : (oM hl).getD k .empty = zK hl k := by
  unfold oM zK Ob
  by_cases h : k < hl.length
  · rw [if_pos (by omega), List.getD_eq_getElem?_getD, List.getElem?_append_left (by simpa using h), List.getElem?_map, List.getElem?_eq_getElem h]
    simp [List.getD_eq_getElem?_getD, h]
  · obtain rfl : k = hl.length := by omega
    rw [if_neg (by omega), List.getD_eq_getElem?_getD, List.getElem?_append_right (by simp)]
    simp
theorem Jg (hl : List qQ) : vT hl (fun _ => none) = oM hl := by
  apply List.ext_getElem?
  intro k
  by_cases h : k ≤ hl.length
  · have h1 := XV (tx := fun _ => none) h
    have h2 := XW h
    rw [List.getD_eq_getElem?_getD, List.getElem?_eq_getElem (by rw [E8]; omega)] at h1
    rw [List.getD_eq_getElem?_getD, List.getElem?_eq_getElem (by rw [BR]; omega)] at h2
    rw [List.getElem?_eq_getElem (by rw [E8]; omega), List.getElem?_eq_getElem (by rw [BR]; omega)]
    simp only [Option.getD_some] at h1 h2
    rw [h1, h2]; rfl
  · rw [List.getElem?_eq_none (by rw [E8]; omega), List.getElem?_eq_none (by rw [BR]; omega)]
def Et (c : mX) : Prop := (∀ k, jd (c.un k) [] ≤ 16384 ∧ ∀ g ∈ c.un k, g ≠ []) ∧ (c.E.length ≤ 60 ∧ (c.at_ < c.E.length ∨ c.at_ = 0) ∧ ∀ e ∈ c.E, e.length ≤ 1024)
def RX (s : dN) : Prop := Et s.c ∧ (s.inn = true → Et s.was ∧ s.c.last = s.was.last ∧ (s.lT = false → s.c.fr = s.was.fr ∧ s.c.to = s.was.to)) ∧ (s.inn = true → s.cls = 2 → s.lT = true)
def wz (hl : List qQ) (A : List LE) : Prop := (A.map (·.1)).Nodup ∧ ∀ x ∈ A.map (·.1), 0 ≤ x ∧ x ≤ (hl.length : Int)
def Fa (pb pk : Nat) (wv nv pv gv : Value) (hl : List qQ) (c : mX) : List Value := [.pointer (some ⟨pb, 0, none⟩), .pointer (some ⟨pk, 0, none⟩), wv, nv, .int .i64 c.place, .string (jS hl c.tx c.place), pv, gv, .int .i64 c.mode, .bool c.over, .int .i64 c.res, .bool c.run]
structure ROP where
  pb : Nat
  pk : Nat
  wv : Value
  nv : Value
  pv : Value
  gv : Value
  A : List LE
def Cc (inn : Bool) (hl : List qQ) (c : mX) (u : List Value) : HP := if inn = true then uf fun (x : ROP) => fact (u = Fa x.pb x.pk x.wv x.nv x.pv x.gv hl c ∧ Gf x.A = c.un ∧ wz hl x.A ∧ (u.all fun x => x.oneCell') = true) •
  oO x.pb c.L c.pt c.mark • mQ x.pk c.E c.at_ • vV 1 x.wv (hl.length + 1) (strs (oM hl)) • Row 9 1 x.nv (hl.length + 1) (strs (vT hl c.tx)) • nD .i64 x.pv (x.A.map (·.1)) • vV 1 x.gv x.A.length (x.A.map (·.2.1)) • rC x.A else fact ((u.all fun x => x.oneCell') = true)
structure kG (s : dN) (es : List eG) (A : List LE) (yf yt : Int) : Prop where
  ok : mF s
  rx : RX s
  says : es.map eG.says = s.put
  Gf : Gf A = s.c.un
  placed : wz s.hl A
  XY : s.inn = true → s.lT = true → yf = s.c.fr ∧ yt = s.c.to
structure RdP where
  h : Nat
  pb : Nat
  pk : Nat
  wv : Value
  nv : Value
  pv : Value
  gv : Value
  A : List LE
  nw : Value
  es : List eG
  yf : Int
  yt : Int
  ch : Bool
  u0 : Value
  u1 : Value
  u2 : Value
  u3 : Value
  u4 : Value
  u5 : Value
  u6 : Value
  u7 : Value
  u8 : Value
  u9 : Value
  ua : Value
  ub : Value
def pX (y : Nat) (s : dN) : HP := uf fun (x : RdP) => match x with
  | ⟨h, pb, pk, wv, nv, pv, gv, A, nw, es, yf, yt, ch, u0, u1, u2, u3, u4, u5, u6, u7, u8, u9, ua, ub⟩ => fact (kG s es A yf yt) • dS y (.cells (.pointer (some ⟨h, 0, none⟩) :: .pointer (some ⟨pb, 0, none⟩) :: .pointer (some ⟨pk, 0, none⟩) :: wv :: nv :: .int .i64 s.c.place :: .string (jS s.hl s.c.tx s.c.place) :: pv :: gv :: .int .i64 s.c.mode :: .bool s.c.over :: .int .i64 s.c.res :: .bool s.c.run :: u0 :: u1 :: u2 :: u3 :: u4 :: u5 :: u6 :: u7 :: u8 :: u9 :: ua :: ub :: .bool s.given :: .bool s.minus :: .int .i64 s.arg :: .int .i64 s.Ae :: .int .i64 s.U8 :: .int .i64 s.U9 :: .int .i64 s.su :: .bool s.inn :: .int .i64 s.cls :: .int .i64 yf :: .int .i64 yt :: .bool s.argues :: .bool s.killed :: .bool s.lT :: nw :: .bool s.whole :: .bool ch :: []).toArray 174 (0, 0)) • oO pb s.c.L s.c.pt s.c.mark • mQ pk s.c.E s.c.at_ • vV 1 wv (s.hl.length + 1) (strs (oM s.hl)) • Row 9 1 nv (s.hl.length + 1) (strs (vT s.hl s.c.tx)) • nD .i64 pv (A.map (·.1)) • vV 1 gv A.length (A.map (·.2.1)) • rC A • jF h s.hl s.base s.most • Row 189 3 nw s.put.length (es.flatMap eG.enc) • kW es • Cc s.inn s.hl s.was [u0, u1, u2, u3, u4, u5, u6, u7, u8, u9, ua, ub]
section
variable {w0 w : World} {F : HP} {y : Nat} {s : dN}
theorem V.Pn (H : V w0 w (pX y s • F)) : ∃ h pb pk wv nv pv gv A nw es yf yt ch u0 u1 u2 u3 u4 u5 u6 u7 u8 u9 ua ub, kG s es A yf yt ∧ es.length = s.put.length ∧ V w0 w (dS y (.cells (.pointer (some ⟨h, 0, none⟩) :: .pointer (some ⟨pb, 0, none⟩) :: .pointer (some ⟨pk, 0, none⟩) :: wv :: nv :: .int .i64 s.c.place :: .string (jS s.hl s.c.tx s.c.place) :: pv :: gv :: .int .i64 s.c.mode :: .bool s.c.over :: .int .i64 s.c.res :: .bool s.c.run :: u0 :: u1 :: u2 :: u3 :: u4 :: u5 :: u6 :: u7 :: u8 :: u9 :: ua :: ub :: .bool s.given :: .bool s.minus :: .int .i64 s.arg :: .int .i64 s.Ae :: .int .i64 s.U8 :: .int .i64 s.U9 :: .int .i64 s.su :: .bool s.inn :: .int .i64 s.cls :: .int .i64 yf :: .int .i64 yt :: .bool s.argues :: .bool s.killed :: .bool s.lT :: nw :: .bool s.whole :: .bool ch :: []).toArray 174 (0, 0)) • oO pb s.c.L s.c.pt s.c.mark • mQ pk s.c.E s.c.at_ • vV 1 wv (s.hl.length + 1) (strs (oM s.hl)) • Row 9 1 nv (s.hl.length + 1) (strs (vT s.hl s.c.tx)) • nD .i64 pv (A.map (·.1)) • vV 1 gv A.length (A.map (·.2.1)) • rC A • jF h s.hl s.base s.most • Row 189 3 nw s.put.length (es.flatMap eG.enc) • kW es • Cc s.inn s.hl s.was [u0, u1, u2, u3, u4, u5, u6, u7, u8, u9, ua, ub] • F) := by
  obtain ⟨⟨h, pb, pk, wv, nv, pv, gv, A, nw, es, yf, yt, ch, u0, u1, u2, u3, u4, u5, u6, u7, u8, u9, ua, ub⟩, H⟩ := H.lZ
  obtain ⟨h1, H⟩ := H.flat.fact
  refine ⟨h, pb, pk, wv, nv, pv, gv, A, nw, es, yf, yt, ch, u0, u1, u2, u3, u4, u5, u6, u7, u8, u9, ua, ub, h1, ?_, ?_⟩
  · rw [← h1.says]; simp
  · exact H.of_eq (by simp only [dB])
theorem V.tV {h pb pk : Nat} {wv nv pv gv : Value} {A : List LE} {nw : Value} {es : List eG} {yf yt : Int} {ch : Bool} {u0 u1 u2 u3 u4 u5 u6 u7 u8 u9 ua ub : Value} (h1 : kG s es A yf yt) (H : V w0 w (dS y (.cells (.pointer (some ⟨h, 0, none⟩) :: .pointer (some ⟨pb, 0, none⟩) :: .pointer (some ⟨pk, 0, none⟩) :: wv :: nv :: .int .i64 s.c.place :: .string (jS s.hl s.c.tx s.c.place) :: pv :: gv :: .int .i64 s.c.mode :: .bool s.c.over :: .int .i64 s.c.res :: .bool s.c.run :: u0 :: u1 :: u2 :: u3 :: u4 :: u5 :: u6 :: u7 :: u8 :: u9 :: ua :: ub :: .bool s.given :: .bool s.minus :: .int .i64 s.arg :: .int .i64 s.Ae :: .int .i64 s.U8 :: .int .i64 s.U9 :: .int .i64 s.su :: .bool s.inn :: .int .i64 s.cls :: .int .i64 yf :: .int .i64 yt :: .bool s.argues :: .bool s.killed :: .bool s.lT :: nw :: .bool s.whole :: .bool ch :: []).toArray 174 (0, 0)) • oO pb s.c.L s.c.pt s.c.mark • mQ pk s.c.E s.c.at_ • vV 1 wv (s.hl.length + 1) (strs (oM s.hl)) • Row 9 1 nv (s.hl.length + 1) (strs (vT s.hl s.c.tx)) • nD .i64 pv (A.map (·.1)) • vV 1 gv A.length (A.map (·.2.1)) • rC A • jF h s.hl s.base s.most • Row 189 3 nw s.put.length (es.flatMap eG.enc) • kW es • Cc s.inn s.hl s.was [u0, u1, u2, u3, u4, u5, u6, u7, u8, u9, ua, ub] • F)) : V w0 w (pX y s • F) :=
  V.iV ⟨h, pb, pk, wv, nv, pv, gv, A, nw, es, yf, yt, ch, u0, u1, u2, u3, u4, u5, u6, u7, u8, u9, ua, ub⟩ (V.deep (V.kR h1 (H.of_eq (by simp only [dB]))))
theorem UJ {inn : Bool} {hl : List qQ} {c : mX} {u : List Value} (H : V w0 w (Cc inn hl c u • F)) : (u.all fun x => x.oneCell') = true := by
  unfold Cc at H
  cases inn with
  | true =>
    rw [if_pos rfl] at H
    obtain ⟨x, H⟩ := H.lZ
    exact H.flat.fact.1.2.2.2
  | false =>
    rw [if_neg (by decide)] at H
    exact H.fact.1
theorem V.Eu {hl : List qQ} {c : mX} {u : List Value} (H : V w0 w F) (hu : (u.all fun x => x.oneCell') = true) : V w0 w (Cc false hl c u • F) := by
  unfold Cc
  rw [if_neg (by decide)]
  exact H.kR hu
theorem V.aeK {hl : List qQ} {c : mX} {u : List Value} (H : V w0 w (Cc true hl c u • F)) : ∃ pb pk wv nv pv gv A, u = Fa pb pk wv nv pv gv hl c ∧ Gf A = c.un ∧ wz hl A ∧ (u.all fun x => x.oneCell') = true ∧
    V w0 w (oO pb c.L c.pt c.mark • mQ pk c.E c.at_ • vV 1 wv (hl.length + 1) (strs (oM hl)) • Row 9 1 nv (hl.length + 1) (strs (vT hl c.tx)) • nD .i64 pv (A.map (·.1)) • vV 1 gv A.length (A.map (·.2.1)) • rC A • F) := by
  unfold Cc at H
  rw [if_pos rfl] at H
  obtain ⟨⟨pb, pk, wv, nv, pv, gv, A⟩, H⟩ := H.lZ
  obtain ⟨⟨h1, h2, h3, h4⟩, H⟩ := H.flat.fact
  exact ⟨pb, pk, wv, nv, pv, gv, A, h1, h2, h3, h4, H.of_eq (by simp only [dB])⟩
theorem V.Zl {hl : List qQ} {c : mX} {pb pk : Nat} {wv nv pv gv : Value} {A : List LE} (h2 : Gf A = c.un) (h3 : wz hl A) (H : V w0 w (oO pb c.L c.pt c.mark • mQ pk c.E c.at_ • vV 1 wv (hl.length + 1) (strs (oM hl)) • Row 9 1 nv (hl.length + 1) (strs (vT hl c.tx)) • nD .i64 pv (A.map (·.1)) • vV 1 gv A.length (A.map (·.2.1)) • rC A • F)) : V w0 w (Cc true hl c (Fa pb pk wv nv pv gv hl c) • F) := by
  have o1 := (H.f3).pU.one
  have o2 := (H.f4).aY.one
  have o3 := (H.f5).jV.one
  have o4 := (H.f6).pU.one
  have hu : ((Fa pb pk wv nv pv gv hl c).all fun x => x.oneCell') = true := by
    unfold Fa
    simp only [List.all_cons, List.all_nil, o1, o2, o3, o4, Bool.and_true, Bool.true_and]
    rfl
  unfold Cc
  rw [if_pos rfl]
  exact V.iV ⟨pb, pk, wv, nv, pv, gv, A⟩ (V.deep (V.kR ⟨rfl, h2, h3, hu⟩ (H.of_eq (by simp only [dB]))))
end
end Go.Proofs.YtpdeedplgmbopaaGreatDoor
end
section
namespace Go.Proofs.YtpdeedplgmbopaaGreatDoor
open Go.RowKit
open _root_.Go.Proofs.Tryz
def dN.rV (s : dN) (l : List Int) : Int := if s.inn then 1 else if 1024 < l.length then 3 else 0
def dN.Dx (s : dN) (hl : List qQ) (base most : Int) (l : List Int) : dN := if s.rV l = 0 then s.start hl base most l else s
theorem Po {s : dN} (h : mF s) (hi : s.inn = false) (hl : List qQ) (base most : Int) (l : List Int) : mF (s.start hl base most l) := by
  obtain ⟨h1, h2, h3, h4, h5, h6⟩ := h
  refine ⟨OQ _ _ _ _ _, fun h => absurd (show s.inn = true from h) (by rw [hi]; decide), ⟨by show (-1 : Int) ≤ -1; decide, by show (-1 : Int) ≤ 1000000; decide⟩, h4, ?_, by simp [dN.start, mX.fresh]⟩
  show jd [] s.put ≤ 16384
  unfold jd at *; simp at *; omega
section
variable {w0 w : World} {F : HP} {e p h pr : Nat} {s : dN} {hl : List qQ} {base most m : Int} {v : Value} {l : List Int}
theorem MX (H : V w0 w (iC e s • iH h hl base most • F)) (hr : jE w0 F .i32 v l) : ig prog 59 #[.pointer (some ⟨e, 0, none⟩), .pointer (some ⟨h, 0, none⟩), v] w fun v' w' =>
  v' = .int .i64 (s.rV l) ∧ V w0 w' (iC e (s.Dx hl base most l) • iH h hl base most • F) := by
 unfold dN.Dx
 refine DL func59 ntmps59 ?_
 refine jy O (aK (aV (bM O (dX O func65 (qJ H) ?_))))
 rintro _ _ ⟨rfl, rfl⟩
 refine bG O (bg (bG O (bg (dX O func109 (tC H.f2) ?_))))
 rintro _ w2 ⟨q2, rfl, H2⟩
 refine bg (Z (jm kC O O) (gI O O (fV O (NC O (fun h1 => ?_)))))
 (try simp only [aC] at h1)
 refine aK ?_
 have PS := H2.right
 obtain ⟨yI, yJ, yK, yL, yM, yN, yO, yP, wu, uF, uG, uH, uI, uJ, uK, uM, uN, uO, uP, uQ, iR, dM, lJ, jg⟩ := (PS.f2).Ik
 refine aA (nZ O O (bK 16 ah O aT O (gJ bW O (jg).get.2 O (fV O (bI O (fun h2 => ?_) (fun h2 => ?_))))))
 ·(try simp only [aC] at h2)
  have hin := h2
  have hE : s.rV l = 1 := by unfold dN.rV; rw [if_pos hin]
  refine jB O (aN (ay (dF results59 O ?_)))
  have YQ := jg.f11.f11.f11.f11.f11.f11.f11.f11.f11.f11.f11
  have YR := V.je (s := s) iR dM YQ
  exact ⟨by rw [hE], by rw [if_neg (by rw [hE]; decide)]; exact YR.f2.f2⟩
 ·(try simp only [aC] at h2)
  have hin : s.inn = false := by simpa using h2
  refine bM O (Z (fO (hr _ (jg.right.right.right.right.right.right.right.right.right.right.right.right)) aj O) (Z (iw O O) (fV O (bI O (fun h3 => ?_) (fun h3 => ?_)))))
  ·(try simp only [aC] at h3)
   have hbig := h3
   have hE : s.rV l = 3 := by unfold dN.rV; rw [if_neg (by simp [hin]), if_pos (by omega)]
   refine jB O (aN (ay (dF results59 O ?_)))
   have Ho9 := jg.f11.f11.f11.f11.f11.f11.f11.f11.f11.f11.f11
   have abt := V.je (s := s) iR dM Ho9
   exact ⟨by rw [hE], by rw [if_neg (by rw [hE]; decide)]; exact abt.f2.f2⟩
  ·(try simp only [aC] at h3)
   have hE : s.rV l = 0 := by unfold dN.rV; rw [if_neg (by simp [hin]), if_neg (by have h9 := h3; omega)]
   have hsh : l.length ≤ 1024 := by have h9 := h3; omega
   refine bY (aG (aW (bM O (jr O O (dX O func111 (CS (E := s.c.E) (a := s.c.at_) jg.f2.right.f3.right.f3.right.f3.right.f3.right.f6.f6.f6.f6.f6.f7.f7 (fun W HW => hr W HW.right.right.right.right.right) hsh) ?_)))))
   rintro _ ED ⟨qb, qw, qt, qm, qh, rM⟩
   refine iy (jB O (dF results59 O ?_))
   exact ⟨by rw [hE], by rw [if_pos hE]; exact V.je (s := s.start hl base most l) (Po iR hin _ _ _ _) dM rM.f7.f12.f12.f12.f12.f11.f11.f11.f11.f12.f12.f12⟩
end
end Go.Proofs.YtpdeedplgmbopaaGreatDoor
end
section
namespace Go.Proofs.YtpdeedplgmbopaaGreatDoor
open Go.RowKit
section
variable {s : dN} {es : List eG} {A : List LE} {yf yt : Int}
theorem kG.zM (h : kG s es A yf yt) (L : List Int) (p m : Int) : kG (s.zM L p m) es A yf yt := ⟨KL h.ok _ _ _, h.rx, h.says, h.Gf, h.placed, h.XY⟩
theorem kG.begin (h : kG s es A yf yt) (hi : s.inn = false) : kG s.kN [] A 0 0 := by
  have h1 := OT h.ok hi
  have h0 := h.rx.1
  have hl := h.Gf
  have hq := h.placed
  rw [wU hi] at h1 ⊢
  exact ⟨h1, ⟨h0, fun _ => ⟨h0, rfl, fun _ => ⟨rfl, rfl⟩⟩, fun _ h2 => absurd h2 (by show ¬ (0 : Int) = 2; decide)⟩, rfl, hl, hq, fun _ h2 => absurd h2 (by show ¬ false = true; decide)⟩
theorem KW {c : mX} (h : Et c) {k : Int} {G : List (List jq)} (h1 : jd G [] ≤ 16384) (h2 : ∀ g ∈ G, g ≠ []) : Et { c with un := xQ c.un k G } := by
  refine ⟨fun j => ?_, h.2⟩
  show jd (xQ c.un k G j) [] ≤ 16384 ∧ ∀ g ∈ xQ c.un k G j, g ≠ []
  by_cases hj : j = k
  · subst hj; rw [oK]; exact ⟨h1, h2⟩
  · rw [vH _ _ hj]; exact h.1 j
theorem kG.none (h : kG s es A yf yt) {x : jq} (hx : x.2.1.length + x.2.2.length = 0) : kG (s.Sl x) es A yf yt := by rw [Xn hx]; exact h
theorem Ew (h : mF s) (hx : Et s.c) (hp : s.put ≠ []) (on : Bool) : jd (s.lH on) [] ≤ 16384 ∧ (∀ g ∈ s.lH on, g ≠ []) ∧ ∀ g ∈ s.lH on, ∀ e ∈ g, yG e := by
  obtain ⟨h1, h2, h3, h4, h5, h6⟩ := h
  have hs := pz s.here s.put
  have hne := (hx.1 s.c.place).2
  have h6' : ∀ g ∈ s.here, ∀ e ∈ g, yG e := h6 s.c.place
  have key : ∀ (G : List (List jq)) (g : List jq), jd (G ++ [g]) [] ≤ jd s.here s.put → (∀ x ∈ G, x ∈ s.here) → (∀ e ∈ g, yG e) → g ≠ [] →
      jd (G ++ [g]) [] ≤ 16384 ∧ (∀ x ∈ G ++ [g], x ≠ []) ∧ ∀ x ∈ G ++ [g], ∀ e ∈ x, yG e := by
    intro G g a1 a2 a3 a4
    refine ⟨by omega, fun x hx => ?_, fun x hx => ?_⟩
    · rcases List.mem_append.1 hx with hx | hx
      · exact hne x (a2 x hx)
      · rw [List.mem_singleton.1 hx]; exact a4
    · rcases List.mem_append.1 hx with hx | hx
      · exact h6' x (a2 x hx)
      · rw [List.mem_singleton.1 hx]; exact a3
  unfold dN.lH
  rw [if_neg hp]
  cases on with
  | false =>
    rw [if_neg (by decide)]
    exact key s.here s.put (by rw [Ej]; omega) (fun x hx => hx) h4 hp
  | true =>
    rw [if_pos rfl]
    by_cases h0 : s.here = []
    · rw [h0]
      exact key [] s.put (by rw [Ej, Xm]; omega) (fun x hx => by cases hx) h4 hp
    · rw [List.getLast?_eq_some_getLast h0]
      have hd := Ei h0
      have h2 : s.here.getLastD [] = s.here.getLast h0 := by rw [List.getLastD_eq_getLast?, List.getLast?_eq_some_getLast h0]; rfl
      rw [h2] at hd
      refine key s.here.dropLast (s.here.getLast h0 ++ s.put) ?_ (fun x hx => List.dropLast_subset _ hx) (fun e he => ?_) (fun he => hp (List.append_eq_nil_iff.1 he).2)
      · rw [Ej, List.length_append, hs]
        unfold jd
        simp only [List.length_nil, Nat.add_zero]
        omega
      · rcases List.mem_append.1 he with he | he
        · exact h6' _ (List.getLast_mem h0) e he
        · exact h4 e he
theorem UK (h : mF s) (hx : Et s.c) (on : Bool) : mF (s.iF on) := by
  by_cases hp : s.put = []
  · rw [zS hp]; exact h
  · obtain ⟨f1, f2, f3⟩ := Ew h hx hp on
    rw [lX hp]
    obtain ⟨h1, h2, h3, h4, h5, h6⟩ := h
    refine ⟨h1, h2, h3, by simp, ?_, fun k g hg => ?_⟩
    · show jd (xQ s.c.un s.c.place (s.lH on) s.c.place) [] ≤ 16384
      rw [oK]; exact f1
    · have hg' : g ∈ xQ s.c.un s.c.place (s.lH on) k := hg
      by_cases hk : k = s.c.place
      · subst hk; rw [oK] at hg'; exact f3 g hg'
      · rw [vH _ _ hk] at hg'; exact h6 k g hg'
theorem UL (h : mF s) (hx : RX s) (on : Bool) : RX (s.iF on) := by
  by_cases hp : s.put = []
  · rw [zS hp]; exact hx
  · obtain ⟨f1, f2, f3⟩ := Ew h hx.1 hp on
    rw [lX hp]
    exact ⟨KW hx.1 f1 f2, hx.2.1, hx.2.2⟩
theorem kG.sub (h : kG s es A yf yt) {G : List (List jq)} {A' : List LE} (h1 : jd G s.put ≤ jd s.here s.put) (h2 : ∀ g ∈ G, g ∈ s.here) (hA : _root_.Go.Proofs.YtpdeedplgmbopaaGreatDoor.Gf A' = xQ s.c.un s.c.place G) (hP : wz s.hl A') : kG (s.xA G) es A' yf yt := by
  have ht := (h.rx.1.1 s.c.place).1
  have he : jd s.here s.put = jd s.here [] + s.put.length := pz _ _
  have hg : jd G s.put = jd G [] + s.put.length := pz _ _
  have hh : jd s.here [] ≤ 16384 := ht
  exact ⟨abm h.ok h1 h2, ⟨KW h.rx.1 (by omega) (fun g hg => (h.rx.1.1 s.c.place).2 g (h2 g hg)), h.rx.2.1, h.rx.2.2⟩, h.says, hA, hP, h.XY⟩
theorem UM (h : Et s.c) : s.here.length ≤ 16384 := by
  have h1 := (h.1 s.c.place).1
  have h2 := (h.1 s.c.place).2
  have key : ∀ G : List (List jq), (∀ g ∈ G, g ≠ []) → G.length ≤ (G.map List.length).sum := by
    intro G hG
    induction G with
    | nil => simp
    | cons g r ih =>
      have := ih (fun x hx => hG x (List.mem_cons_of_mem _ hx))
      have h3 : 0 < g.length := List.length_pos_iff.2 (hG g (List.mem_cons_self ..))
      simp only [List.length_cons, List.map_cons, List.sum_cons]
      omega
  have h4 := key (s.c.un s.c.place) h2
  unfold jd at h1
  simp only [List.length_nil, Nat.add_zero] at h1
  exact Nat.le_trans h4 h1
theorem Rw {hl : List qQ} {A : List LE} {k : Int} {u : Value} {gs : List (Value × List eG)} (h : wz hl A) (hk : 0 ≤ k ∧ k ≤ hl.length) : wz hl (zu A k u gs) := Zj h hk
end
end Go.Proofs.YtpdeedplgmbopaaGreatDoor
end
section
namespace Go.Proofs.YtpdeedplgmbopaaGreatDoor
open Go.RowKit
open _root_.Go.Proofs.Tryz
theorem MZ {A : List LE} {i : Nat} (h : i < A.length) : (A.map (·.1)).getD i 0 = (A.getD i default).1 := by simp [List.getD_eq_getElem?_getD, h]
theorem Tn {A : List LE} {i : Nat} (h : i < A.length) : (A.map (·.2.1)).getD i undef = (A.getD i default).2.1 := by simp [List.getD_eq_getElem?_getD, h]
theorem KX {A : List LE} {p : LE → Bool} {i : Nat} (h : i < A.length) : (A.take (i + 1)).filter p = (A.take i).filter p ++ (if p (A.getD i default) then [A.getD i default] else []) := by
  rw [List.take_succ_eq_append_getElem h, List.filter_append, List.getD_eq_getElem?_getD, List.getElem?_eq_getElem h]
  simp only [Option.getD_some, List.filter_cons, List.filter_nil]
section
variable {w0 w : World} {F : HP} {y : Nat} {k : Int} {pv gv u : Value} {A : List LE} {gs : List (Value × List eG)}
theorem Rx {x0 x1 x2 x3 x4 x5 x6 x9 x10 x11 x12 wC x14 x15 x16 x17 x18 x19 x20 x21 wQ x23 x24 x25 xq x27 x28 x29 x30 x31 x32 yc x34 ND NG NH x38 x39 x40 x41 : Value} (H : V w0 w (dS y (.cells (x0 :: x1 :: x2 :: x3 :: x4 :: x5 :: x6 :: pv :: gv :: x9 :: x10 :: x11 :: x12 :: wC :: x14 :: x15 :: x16 :: x17 :: x18 :: x19 :: x20 :: x21 :: wQ :: x23 :: x24 :: x25 :: xq :: x27 :: x28 :: x29 :: x30 :: x31 :: x32 :: yc :: x34 :: ND :: NG :: NH :: x38 :: x39 :: x40 :: x41 :: []).toArray 174 (0, 0)) • nD .i64 pv (A.map (·.1)) • vV 1 gv A.length (A.map (·.2.1)) • rC A • F)) : ig prog 155 #[.pointer (some ⟨y, 7, none⟩), .int .i64 k] w fun v' w' => ∃ gs, Bq gs = Gf A k ∧
  V w0 w' (vV 1 v' gs.length (gs.map (·.1)) • oH gs • dS y (.cells (x0 :: x1 :: x2 :: x3 :: x4 :: x5 :: x6 :: pv :: gv :: x9 :: x10 :: x11 :: x12 :: wC :: x14 :: x15 :: x16 :: x17 :: x18 :: x19 :: x20 :: x21 :: wQ :: x23 :: x24 :: x25 :: xq :: x27 :: x28 :: x29 :: x30 :: x31 :: x32 :: yc :: x34 :: ND :: NG :: NH :: x38 :: x39 :: x40 :: x41 :: []).toArray 174 (0, 0)) • nD .i64 pv (A.map (·.1)) • vV 1 gv A.length (A.map (·.2.1)) • rC A • F) := by
 have hpl : (A.map (·.1)).length = A.length := List.length_map _
 have hcap : (A.length : Int) ≤ 9223372036854775807 := by obtain ⟨_, a, c, _, h2, h3, _⟩ := (H.f3).pU; omega
 refine nC func155 ntmps155 ?_
 refine jy O (aK (jy O (aV ?_)))
 refine dJ [(0, _), (1, _)] (fun (i : Nat) => [(5, .int .i64 (i : Int))]) (fun (i : Nat) W => (i ≤ A.length ∧ ∀ j, j < i → (A.getD j default).1 ≠ k) ∧ V w0 W (dS y (.cells (x0 :: x1 :: x2 :: x3 :: x4 :: x5 :: x6 :: pv :: gv :: x9 :: x10 :: x11 :: x12 :: wC :: x14 :: x15 :: x16 :: x17 :: x18 :: x19 :: x20 :: x21 :: wQ :: x23 :: x24 :: x25 :: xq :: x27 :: x28 :: x29 :: x30 :: x31 :: x32 :: yc :: x34 :: ND :: NG :: NH :: x38 :: x39 :: x40 :: x41 :: []).toArray 174 (0, 0)) • nD .i64 pv (A.map (·.1)) • vV 1 gv A.length (A.map (·.2.1)) • rC A • F)) (fun (i : Nat) => A.length - i) (0) mW ji ⟨⟨by omega, fun j hj => by omega⟩, H.f4.f4.f4.f4⟩ ?_
 rintro i w1 ⟨⟨hi, hne⟩, HL⟩
 dsimp only [List.cons_append, List.nil_append]
 refine aK (bM O (nZ O O (bK 0 jT O sizeOf167 O (gJ iq O (HL).get.2 O (Z (fO ((HL.f2).jV) iq O) (Z (fF O O) (gQ O (fun h1 => ?_) (fun h1 => ?_))))))))
 ·(try simp only [aC] at h1)
  refine fG (aK (aV (aK ?_)))
  have hil : i < A.length := by omega
  refine aA (nZ O O (bK 0 jT O sizeOf167 O (gJ iq O (HL).get.2 O (bG O ?_))))
  obtain ⟨bpv, opv, cpv, epv⟩ := dR.nJ ((HL.f2).jV) (by omega)
  cases epv
  refine Z (dh iq aF O O (by omega)) ?_
  refine Z (dH (bT aP O) O (by first | exact dR.jo ((HL.f2).jV) (by omega) | exact dR.qB ((HL.f2).jV) (by omega) | exact dR.qx ((HL.f2).jV) (by omega))) ?_
  rw [MZ hil]
  refine bG O (Z (cZ O O) (gQ O (fun h2 => ?_) (fun h2 => ?_)))
  ·(try simp only [aC] at h2)
   have hek : (A.getD i default).1 = k := h2
   refine bM O (dQ O (bK 1 jT O sizeOf168 O (gJ lC O (HL).get.2 O (bG O ?_))))
   obtain ⟨bgv, ogv, cgv, egv⟩ := Rd.nJ ((HL.f3).pU) (by omega)
   cases egv
   refine Z (dh lC fJ O O (by omega)) ?_
   refine Z (dH (bT bH O) O (by first | exact Rd.jo ((HL.f3).pU) (by omega) | exact Rd.qB ((HL.f3).pU) (by omega) | exact Rd.qx ((HL.f3).pU) (by omega))) ?_
   rw [Tn hil]
   have hat := abr hil hne hek
   obtain ⟨xp, xv, xgs, hx⟩ : ∃ xp xv xgs, A.getD i default = (xp, xv, xgs) := ⟨_, _, _, rfl⟩
   rw [hx] at hat ⊢
   dsimp only at hat ⊢
   have Ho2 := HL.f4
   have YU := Ho2.Tj hil hx
   refine dU O (aN (ay (ay (aN (ay (dF results155 O ?_))))))
   exact ⟨xgs, hat.symm, YU.f3.f6.f6.f6.f6.f6⟩
  ·(try simp only [aC] at h2)
   have hni : (A.getD i default).1 ≠ k := h2
   refine bY (aG (aW (aA (bG O (Z (dP O O (by omega)) (dL O (bD ?_)))))))
   refine bZ (i + 1) ?_ ?_ ?_ ?_
   ·exact ji
   ·exact mW
   ·(try dsimp only)
    first | done | exact ⟨⟨by omega, fun j hj => (show j < i ∨ j = i from by omega).elim (hne j) (fun c => c ▸ hni)⟩, HL.f4.f4.f4.f4⟩
   ·(try dsimp only); omega
 ·(try simp only [aC] at h1)
  refine bQ (aB (aB (aU (aW (aK ?_)))))
  obtain rfl : i = A.length := by omega
  refine aA (dU O (dF results155 O ?_))
  exact ⟨[], by rw [XP hne]; rfl, ((HL.f4.f4.f4.f4).Zk none).Ti⟩
theorem Pq {x0 x1 x2 x3 x4 x5 x6 x9 x10 x11 x12 wC x14 x15 x16 x17 x18 x19 x20 x21 wQ x23 x24 x25 xq x27 x28 x29 x30 x31 x32 yc x34 ND NG NH x38 x39 x40 x41 : Value} (H : V w0 w (dS y (.cells (x0 :: x1 :: x2 :: x3 :: x4 :: x5 :: x6 :: pv :: gv :: x9 :: x10 :: x11 :: x12 :: wC :: x14 :: x15 :: x16 :: x17 :: x18 :: x19 :: x20 :: x21 :: wQ :: x23 :: x24 :: x25 :: xq :: x27 :: x28 :: x29 :: x30 :: x31 :: x32 :: yc :: x34 :: ND :: NG :: NH :: x38 :: x39 :: x40 :: x41 :: []).toArray 174 (0, 0)) • nD .i64 pv (A.map (·.1)) • vV 1 gv A.length (A.map (·.2.1)) • rC A • vV 1 u gs.length (gs.map (·.1)) • oH gs • F)) (hA : A.length ≤ 4097) : ig prog 156 #[.pointer (some ⟨y, 7, none⟩), .int .i64 k, u] w fun _ w' => ∃ pv' gv',
  V w0 w' (dS y (.cells (x0 :: x1 :: x2 :: x3 :: x4 :: x5 :: x6 :: pv' :: gv' :: x9 :: x10 :: x11 :: x12 :: wC :: x14 :: x15 :: x16 :: x17 :: x18 :: x19 :: x20 :: x21 :: wQ :: x23 :: x24 :: x25 :: xq :: x27 :: x28 :: x29 :: x30 :: x31 :: x32 :: yc :: x34 :: ND :: NG :: NH :: x38 :: x39 :: x40 :: x41 :: []).toArray 174 (0, 0)) • nD .i64 pv' ((zu A k u gs).map (·.1)) • vV 1 gv' (zu A k u gs).length ((zu A k u gs).map (·.2.1)) • rC (zu A k u gs) • F) := by
 have hpl : (A.map (·.1)).length = A.length := List.length_map _
 have hfl : ∀ i, ((A.take i).filter fun x => x.1 != k).length ≤ A.length := fun i => Nat.le_trans (List.length_filter_le _ _) (by rw [List.length_take]; omega)
 have adg : ∀ i, (((A.take i).filter fun x => x.1 != k).map (·.1)).length = ((A.take i).filter fun x => x.1 != k).length := fun i => List.length_map _
 refine DL func156 ntmps156 ?_
 refine jy O (jy O (aK (jy O (aV ?_))))
 refine dJ [(0, _), (1, _), (2, _)] (fun (⟨i, u1, u2⟩ : Nat × Value × Value) => [(6, u1), (7, u2), (8, .int .i64 (i : Int))]) (fun (⟨i, u1, u2⟩ : Nat × Value × Value) W => i ≤ A.length ∧ V w0 W (lD 3 .i64 u1 (((A.take i).filter fun x => x.1 != k).map (·.1)) • Row 226 1 u2 ((A.take i).filter fun x => x.1 != k).length (((A.take i).filter fun x => x.1 != k).map (·.2.1)) • dS y (.cells (x0 :: x1 :: x2 :: x3 :: x4 :: x5 :: x6 :: pv :: gv :: x9 :: x10 :: x11 :: x12 :: wC :: x14 :: x15 :: x16 :: x17 :: x18 :: x19 :: x20 :: x21 :: wQ :: x23 :: x24 :: x25 :: xq :: x27 :: x28 :: x29 :: x30 :: x31 :: x32 :: yc :: x34 :: ND :: NG :: NH :: x38 :: x39 :: x40 :: x41 :: []).toArray 174 (0, 0)) • nD .i64 pv (A.map (·.1)) • vV 1 gv A.length (A.map (·.2.1)) • rC A • vV 1 u gs.length (gs.map (·.1)) • oH gs • F)) (fun (⟨i, u1, u2⟩ : Nat × Value × Value) => A.length - i) ((0, .slice none 0 0, .slice none 0 0)) qC qC ⟨by omega, ((H.f6.f6.f6.f6.f6.f6).jk (e := 226) (sz := 1) none).jk none⟩ ?_
 rintro ⟨i, u1, u2⟩ w1 ⟨hi, HL⟩
 dsimp only [List.cons_append, List.nil_append]
 refine aK (bM O (nZ O O (bK 0 jT O sizeOf167 O (gJ iq O (HL.f3).get.2 O (Z (fO ((HL.f4).jV) iq O) (Z (fF O O) (gQ O (fun h1 => ?_) (fun h1 => ?_))))))))
 ·(try simp only [aC] at h1)
  refine fG (aK (aV (aK ?_)))
  have hil : i < A.length := by omega
  have hfi := hfl i
  have adh := adg i
  obtain ⟨xp, xv, xgs, hx⟩ : ∃ xp xv xgs, A.getD i default = (xp, xv, xgs) := ⟨_, _, _, rfl⟩
  refine aA (nZ O O (bK 0 jT O sizeOf167 O (gJ iq O (HL.f3).get.2 O (bG O ?_))))
  obtain ⟨bpv, opv, cpv, epv⟩ := dR.nJ ((HL.f4).jV) (by omega)
  cases epv
  refine Z (dh iq aF O O (by omega)) ?_
  refine Z (dH (bT aP O) O (by first | exact dR.jo ((HL.f4).jV) (by omega) | exact dR.qB ((HL.f4).jV) (by omega) | exact dR.qx ((HL.f4).jV) (by omega))) ?_
  rw [MZ hil, hx]
  dsimp only
  refine bG O (Z (jv O O) (gQ O (fun h2 => ?_) (fun h2 => ?_)))
  ·(try simp only [aC] at h2)
   have hne : ¬ xp = k := h2
   refine bM O (nZ O O (bK 0 jT O sizeOf167 O (gJ iq O (HL.f3).get.2 O (bG O (Z (dh iq aF O O (by omega)) ?_)))))
   refine Z (dH (bT aP O) O (by first | exact dR.jo ((HL.f4).jV) (by omega) | exact dR.qB ((HL.f4).jV) (by omega) | exact dR.qx ((HL.f4).jV) (by omega))) ?_
   rw [MZ hil, hx]
   dsimp only
   refine jL (xk (k := .i64) (l := [_]) HL iq aF zeroValue3 O O O (by decide)) ?_
   rintro l2 w2 H2
   refine jL (lV H2.f2 ((H2).aY) iq adi O O (by first | omega | (simp only [List.length_append, List.length_nil, List.length_cons]; omega) | (simp; omega)) (by first | omega | (simp only [List.length_append, List.length_nil, List.length_cons]; omega) | (simp; omega))) ?_
   rintro l3 w3 H3
   try simp only [List.nil_append] at H3
   refine fV O (aA (jr O O (dQ O (bK 1 jT O sizeOf168 O (gJ lC O (H3.f4).get.2 O (bG O ?_))))))
   obtain ⟨bgv, ogv, cgv, egv⟩ := Rd.nJ ((H3.f6).pU) (by omega)
   cases egv
   refine Z (dh lC fJ O O (by omega)) ?_
   refine Z (dH (bT bH O) O (by first | exact Rd.jo ((H3.f6).pU) (by omega) | exact Rd.qB ((H3.f6).pU) (by omega) | exact Rd.qx ((H3.f6).pU) (by omega))) ?_
   rw [Tn hil, hx]
   dsimp only
   have Qk := H3.f7
   have PN := Qk.Tj hil hx
   refine jL (kH (vs := [_]) PN lC fJ zeroValue226 O O O (by decide) (bf (by first | rfl | exact Rd.one ((PN).pU)) bP)) ?_
   rintro l6 w6 H6
   refine jL (gZ H6.f7 lC XZ O O O ((H6).aY) (bf (by first | rfl | exact Rd.one ((H6.f2).pU)) bP) (by omega) (by omega)) ?_
   rintro l7 w7 H7
   have Hd8 := H7.f2.right
   refine dL O (bD (aG (aW (aA (bG O (Z (dP O O (by omega)) (dL O (bD ?_))))))))
   refine bZ ((i + 1, l3, l7)) ?_ ?_ ?_ ?_
   ·exact qC
   ·exact qC
   ·(try dsimp only)
    first | done | exact ⟨by omega, by rw [KX hil, hx]; dsimp only; first | (rw [if_pos (by simpa using hne)]; simp only [List.map_append, List.length_append]; exact Hd8.f2.right.f2.right.f4.right.f8.f8.f4.f8.f8.f8.f7.f8) | (rw [if_neg (by simpa using heq), List.append_nil]; exact Hd8.f2.right.f2.right.f4.right.f8.f8.f4.f8.f8.f8.f7.f8)⟩
   ·(try dsimp only); omega
  ·(try simp only [aC] at h2)
   have heq : xp = k := by have h9 := h2; omega
   refine bY (aG (aW (aA (bG O (Z (dP O O (by omega)) (dL O (bD ?_)))))))
   refine bZ ((i + 1, u1, u2)) ?_ ?_ ?_ ?_
   ·exact qC
   ·exact qC
   ·(try dsimp only)
    first | done | exact ⟨by omega, by rw [KX hil, hx]; dsimp only; first | (rw [if_pos (by simpa using hne)]; simp only [List.map_append, List.length_append]; exact HL.f8.f8.f8.f8.f8.f8.f8.f8) | (rw [if_neg (by simpa using heq), List.append_nil]; exact HL.f8.f8.f8.f8.f8.f8.f8.f8)⟩
   ·(try dsimp only); omega
 ·(try simp only [aC] at h1)
  refine bQ (aB (aB (aU (aW ?_))))
  obtain rfl : i = A.length := by omega
  have HX := HL
  rw [List.take_length] at HX
  have hfi := hfl A.length
  have adh := adg A.length
  rw [List.take_length] at hfi adh
  refine aA (jr O O (jr O O (jL (xk (k := .i64) (l := [_]) HX iq aF zeroValue3 O O O (by decide)) ?_)))
  rintro l9 w9 H9
  refine jL (lV H9.f2 ((H9).aY) iq adi O O (by first | omega | (simp only [List.length_append, List.length_nil, List.length_cons]; omega) | (simp; omega)) (by first | omega | (simp only [List.length_append, List.length_nil, List.length_cons]; omega) | (simp; omega))) ?_
  rintro l10 w10 rD
  try simp only [List.nil_append] at rD
  refine jr O O (jL (kH (vs := [_]) rD lC fJ zeroValue226 O O O (by decide) (bf (by first | rfl | exact Rd.one ((rD.f8).pU)) bP)) ?_)
  rintro l11 ED rM
  refine jL (gZ rM.f4 lC XZ O O O ((rM).aY) (bf (by first | rfl | exact Rd.one ((rM.f9).pU)) bP) (by omega) (by omega)) ?_
  rintro l12 w12 vX
  have adj := vX.f2.right
  refine dQ O (bK 0 jT O sizeOf167 O (aO (fQ 7 (l' := [_, _, _, _, _, _, _, _, _, _, _, _, _, _, _, _, _, _, _, _, _, _, _, _, _, _, _, _, _, _, _, _, _, _, _, _, _, _, _, _, _, _]) adj.f4 sizeOf167 O O (by first | rfl | exact Rd.one ((adj.f2).aY)) O O) ?_))
  rintro _ TN BJ
  refine dQ O (bK 1 jT O sizeOf168 O (aO (fQ 8 (l' := [_, _, _, _, _, _, _, _, _, _, _, _, _, _, _, _, _, _, _, _, _, _, _, _, _, _, _, _, _, _, _, _, _, _, _, _, _, _, _, _, _, _]) BJ sizeOf168 O O (by first | rfl | exact Rd.one ((BJ.f2).aY)) O O) ?_))
  rintro _ TV zH
  refine bD (mO (.inr O) results156 ?_)
  have hs1 : (zu A k u gs).map (·.1) = (A.filter fun x => x.1 != k).map (·.1) ++ [k] := by unfold zu; rw [List.map_append]; rfl
  have hs2 : (zu A k u gs).map (·.2.1) = (A.filter fun x => x.1 != k).map (·.2.1) ++ [u] := by unfold zu; rw [List.map_append]; rfl
  have hs3 : (zu A k u gs).length = (A.filter fun x => x.1 != k).length + 1 := by unfold zu; rw [List.length_append]; rfl
  have HQ := (zH.f4.right.f4.right.f4.right.f2.f3.f6.f6.f6).XR (p := k) |>.f2.pY.f3.E5.f4.f3.f2
  exact ⟨_, _, by rw [hs1, hs2, hs3]; exact HQ⟩
end
section
variable {w0 w : World} {F : HP} {y : Nat} {s : dN} {x : Int} {b : Bool}
theorem Na (H : V w0 w (pX y s • F)) : ig prog 63 #[.pointer (some ⟨y, 0, none⟩), .int .i64 x] w fun v w' => v = .int .i64 (s.tH x) ∧ V w0 w' (pX y (s.zf x) • F) := by
 refine nC func63 ntmps63 ?_
 refine jy O (aK (aK ?_))
 obtain ⟨Yl, JG, JH, JI, JJ, UN, UO, A_y, UQ, UR, Pv, Px, Py, JK, JL, JM, JO, JQ, JR, JU, JV, JW, JX, JY, JZ, qL, Dy, wB⟩ := (H).Pn
 refine aA (nZ O O (bK 32 aS O aT O (gJ bW O (wB).get.2 O (Z (mD O) (iZ O (fun h1 => ?_) (fun h1 => ?_))))))
 ·(try simp only [aC] at h1)
  refine bn (bn (iM O O (bG O (bn (bn (iM O O (iy (DC (jB O (ay (dF results63 O ?_)))))))))))
  have hd : s.tH x = 1 := by
   unfold dN.tH
   by_cases hin : s.inn = true
   ·rw [if_pos hin, if_pos (by first | omega | (exfalso; simp_all))]
   ·rw [if_neg hin]
  have Ua := wB.f12.f12.f12.f12.f12.f12.f12.f12.f12.f12.f12.f12
  have RV := V.tV (s := s) qL Ua
  exact ⟨by rw [hd], by unfold dN.zf; rw [if_neg (by rw [hd]; decide)]; exact RV⟩
 ·(try simp only [aC] at h1)
  refine bg (bG O (bg (Z (fF O O) (gI O O (iZ O (fun h2 => ?_) (fun h2 => ?_))))))
  ·(try simp only [aC] at h2)
   refine bn (bn (iM O O (iy (DC (jB O (ay (dF results63 O ?_)))))))
   have hd : s.tH x = 1 := by
    unfold dN.tH
    by_cases hin : s.inn = true
    ·rw [if_pos hin, if_pos (by first | omega | (exfalso; simp_all))]
    ·rw [if_neg hin]
   have YQ := wB.f12.f12.f12.f12.f12.f12.f12.f12.f12.f12.f12.f12
   have YR := V.tV (s := s) qL YQ
   exact ⟨by rw [hd], by unfold dN.zf; rw [if_neg (by rw [hd]; decide)]; exact YR⟩
  ·(try simp only [aC] at h2)
   refine bg (bG O (bg (Z (iw O O) (gI O O (gQ O (fun h3 => ?_) (fun h3 => ?_))))))
   ·(try simp only [aC] at h3)
    refine jB O (ay (dF results63 O ?_))
    have hd : s.tH x = 1 := by
     unfold dN.tH
     by_cases hin : s.inn = true
     ·rw [if_pos hin, if_pos (by first | omega | (exfalso; simp_all))]
     ·rw [if_neg hin]
    have Ho9 := wB.f12.f12.f12.f12.f12.f12.f12.f12.f12.f12.f12.f12
    have abt := V.tV (s := s) qL Ho9
    exact ⟨by rw [hd], by unfold dN.zf; rw [if_neg (by rw [hd]; decide)]; exact abt⟩
   ·(try simp only [aC] at h3)
    refine fG (aK ?_)
    have hin : s.inn = true := by first | assumption | (simp_all; done)
    have hd : s.tH x = 0 := by unfold dN.tH; rw [if_pos hin, if_neg (by omega)]
    refine aA (jr O O (dQ O (bK 1 aS O fD O (bK 8 dD O aF O (aO (lG 9 wB aF) ?_)))))
    rintro _ ED rM
    refine iy (jB O (dF results63 O ?_))
    rw [hd]
    refine ⟨O, ?_⟩
    unfold dN.zf
    rw [if_pos hd]
    exact V.tV (s := { s with c := { s.c with mode := x } }) ⟨qL.ok, qL.rx, qL.says, qL.Gf, qL.placed, qL.XY⟩ rM.f12.f12.f12.f12.f12.f12.f12.f12.f12.f12.f12.f12
end
end Go.Proofs.YtpdeedplgmbopaaGreatDoor
end
section
namespace Go.Proofs.YtpdeedplgmbopaaGreatDoor
open Go.RowKit
section
variable {w0 w : World} {F : HP} {e h : Nat} {hl : List qQ} {base most : Int}
end
section
variable {w0 w : World} {F : HP} {l : List qQ} {v : Value}
end
end Go.Proofs.YtpdeedplgmbopaaGreatDoor
end
section
namespace Go.Proofs.YtpdeedplgmbopaaGreatDoor
open Go.RowKit
open _root_.Go.Proofs.Tryz
section
variable {w0 w : World} {F : HP} {p y h : Nat} {L : List Int} {pt mk n : Int} {E : List (List Int)} {place : Nat} {s : dN} {l : List Int} {v wv nv : Value} {m : Nat} {xs ys : List Value}
theorem Nb (H : V w0 w (oO p L pt mk • F)) : ig prog 152 #[.pointer (some ⟨p, 0, none⟩)] w fun v w' => ∃ q, v = .pointer (some ⟨q, 0, none⟩) ∧ V w0 w' (oO q L pt mk • oO p L pt mk • F) := by
 refine iK func152 ntmps152 ?_
 refine jy O (aK ?_)
 obtain ⟨afT, afU, adk, adl, adn, afV, afW, aeL⟩ := (H).ref
 refine aA (tX O ?_)
 have QZ := aeL.drew
 have mG := V.kp (QZ.f2.f2)
 refine yY [4, 9, 13] mG O (jW 0 O mG O (jW 1 O mG O (kV 2 O mG O (iJ 3 O mG 0 underlying222 O dV O (kK 4 O mG (fun W hW => kQ aj O ((Kp.h hW)).get.2 O) (jW 6 O mG O (kV 7 O mG O (iJ 8 O mG 1 underlying222 O aF O (kK 9 O mG (fun W hW => kQ aP O ((Kp.h hW)).get.2 O) (jW 10 O mG O (kV 11 O mG O (iJ 12 O mG 2 underlying222 O aF O (kK 13 O mG (fun W hW => kQ aP O ((Kp.h hW)).get.2 O) (oV 5 O (lV (l := []) (QZ.jk none) ((QZ.f2).aY) aj XU O O (by first | omega | (simp only [List.length_append, List.length_nil, List.length_cons]; omega) | (simp; omega)) (by first | omega | (simp only [List.length_append, List.length_nil, List.length_cons]; omega) | (simp; omega))) ?_))))))))))))))
 rintro l2 w2 H2
 try simp only [List.nil_append] at H2
 have yD := V.kp (H2.f3.f3.f3)
 refine eU yD (fun W hW => (Kp.h hW).right.f2.f2) ?_
 refine jQ 14 O yD (fun _ => eX (zl := [.slice none 0 0, .int .i64 0, .int .i64 0]) (pl := [(0, 1), (1, 1), (2, 1)]) [_, _, _] underlying222 zeroValue222 O (fun w => by kernel_rfl) O (.one (Rd.one ((H2).aY)) (.on (.on .nil))) O) ?_
 refine oV 15 O (jf (l := [_, _, _]) H2 O O) ?_
 rintro _ w3 ⟨b3, rfl, H3⟩
 have zD := V.kp (H3.f4.f4.f4.f4)
 refine iD zD (by kernel_rfl) ?_
 refine jQ 16 O zD (fun _ => dY O) (sK (aW (mg (dF results152 O ?_))))
 have Ho5 := H3.f4.f4
 have Hc6 := V.Ru adk adl adn Ho5
 exact ⟨_, O, V.Ru adk adl adn Hc6.f3.f3⟩
theorem Jh (H : V w0 w (mQ p E place • F)) (hE : E.length ≤ 60 ∧ (place < E.length ∨ place = 0) ∧ ∀ e ∈ E, e.length ≤ 1024) : ig prog 153 #[.pointer (some ⟨p, 0, none⟩)] w fun v w' => ∃ q, v = .pointer (some ⟨q, 0, none⟩) ∧ V w0 w' (mQ q E place • mQ p E place • F) := by
 obtain ⟨u, HR⟩ := H.adf
 obtain ⟨us, HR⟩ := HR.swap.ll
 obtain ⟨au, cu, rfl, -⟩ := (HR.aY).form
 have hE1 : E.length ≤ 60 := hE.1
 have hE2 : ∀ k, (E.getD k []).length ≤ 1024 := Xo hE.2.2
 refine iK func153 ntmps153 ?_
 refine jy O (jy O (aK (jy O (aV ?_))))
 refine dJ [(0, _)] (fun (⟨k, z⟩ : Nat × Value) => [(3, z), (4, .int .i64 (k : Int))]) (fun (⟨k, z⟩ : Nat × Value) W => k ≤ E.length ∧ ∃ zs, V w0 W (Row 22 1 z k zs • AB .i32 zs (E.take k) • Row 22 1 (.slice au E.length cu) E.length us • AB .i32 us E • dS p (.cells #[.slice au E.length cu, .int .i64 place] 176 (0, 0)) • F)) (fun (⟨k, z⟩ : Nat × Value) => E.length - k) ((0, .slice none 0 0)) ji mW ⟨by omega, [], (HR.f3.f3.f3).NS.jk none⟩ ?_
 rintro ⟨k, z⟩ w1 ⟨hk, zs, HL⟩
 dsimp only [List.cons_append, List.nil_append]
 obtain ⟨az, cz, rfl, -⟩ := (HL.aY).form
 refine aK (bM O (nZ O O (bK 0 underlying176 O sizeOf47 O (gJ jh O (HL.f5).get.2 O (Z (jU ((HL.f3).aY) jh O) (Z (fF O O) (gQ O (fun h1 => ?_) (fun h1 => ?_))))))))
 ·(try simp only [aC] at h1)
  refine fG (aK (aV ?_))
  have hkl : k < E.length := by omega
  have hek := hE2 k
  refine aA (jr O O (dQ O (bK 0 underlying176 O sizeOf47 O (gJ jh O (HL.f5).get.2 O (bG O ?_)))))
  obtain ⟨bu, ou, cu, eu⟩ := Rd.nJ ((HL.f3).aY) (by omega)
  cases eu
  refine Z (dh jh dV O O (by omega)) ?_
  refine Z (dH (bT aj O) O (by first | exact Rd.jo ((HL.f3).aY) (by omega) | exact Rd.qB ((HL.f3).aY) (by omega) | exact Rd.qx ((HL.f3).aY) (by omega))) ?_
  refine aar (fun afk abu => ?_)
  refine dX O func181 (UH HL (fun W HW => (by rw [abu]; exact (HW.f4).YJ (by omega))) (by omega)) ?_
  rintro u3 w3 H3
  have Hf4 := H3.pY
  refine jL (kH (vs := [_]) Hf4 jh dV zeroValue22 O O O (by decide) (bf (by first | rfl | exact Rd.one ((Hf4).jV)) bP)) ?_
  rintro l5 w5 H5
  refine jL (gZ H5.f3 jh aag O O O ((H5).aY) (bf (by first | rfl | exact Rd.one ((H5.f2).jV)) bP) (by omega) (by omega)) ?_
  rintro l6 w6 H6
  have Hd7 := H6.f2.right
  refine dL O (bD (aG (aW (aA (bG O (Z (dP O O (by omega)) (dL O (bD ?_))))))))
  have HS := (Hd7.f6.f6.f6.f4.f5.f6).TU.f2
  refine bZ ((k + 1, l6)) ?_ ?_ ?_ ?_
  ·exact mW
  ·exact ji
  ·(try dsimp only)
   first | done | exact ⟨by omega, _, by rw [Jf (d := []) hkl]; exact HS⟩
  ·(try dsimp only); omega
 ·(try simp only [aC] at h1)
  refine bQ (aB (aB (aU (aW (bM O (nZ O O (bK 1 underlying176 O aF O (gJ aP O (HL.f5).get.2 O ?_))))))))
  refine Z (eX (zl := [.slice none 0 0, .int .i64 0]) (pl := [(0, 1), (1, 1)]) [_, _] underlying176 zeroValue176 O (fun w => by kernel_rfl) O (.one (Rd.one ((HL).aY)) (.on .nil)) O) ?_
  refine jL (jf (l := [_, _]) HL O O) ?_
  rintro _ w8 ⟨b8, rfl, H8⟩
  refine dU O (dF results153 O ?_)
  have HL2 := V.VB (H8.f6.f6.f6.f4.f6.f6)
  rw [List.take_of_length_le (by omega)] at HL2
  have HL3 := V.Je HL2.f2
  exact ⟨_, O, (V.Je (V.VB HL3.f3.f3).f3).f2⟩
theorem Ji {x : Int} (H : V w0 w (dS p (.cells #[wv, nv, .int .i64 x] 166 (0, 0)) • Row 9 1 nv m ys • vV 1 wv m xs • F)) (hy : ∀ u ∈ ys, u.oneCell' = true) (hm : m ≤ 4097) : ig prog 154 #[.pointer (some ⟨p, 0, none⟩)] w fun v w' => ∃ q nv', v = .pointer (some ⟨q, 0, none⟩) ∧
  V w0 w' (dS q (.cells #[wv, nv', .int .i64 x] 166 (0, 0)) • Row 9 1 nv' m ys • dS p (.cells #[wv, nv, .int .i64 x] 166 (0, 0)) • Row 9 1 nv m ys • vV 1 wv m xs • F) := by
 refine iK func154 ntmps154 ?_
 refine jy O (aK ?_)
 have QN := H.drew
 have mY := V.kp (QN.f3.f3.f3)
 refine yY [3, 7, 12] mY O (jW 0 O mY O (kV 1 O mY O (iJ 2 O mY 0 gV O sizeOf33 O (kK 3 O mY (fun W hW => kQ iP O ((Kp.h hW)).get.2 O) (jW 4 O mY O (kV 5 O mY O (iJ 6 O mY 1 gV O sizeOf33 O (kK 7 O mY (fun W hW => kQ iP O ((Kp.h hW)).get.2 O) (jW 9 O mY O (kV 10 O mY O (iJ 11 O mY 2 gV O aF O (kK 12 O mY (fun W hW => kQ aP O ((Kp.h hW)).get.2 O) (oV 8 O (gZ (QN.jk none) iP Y1 O O O ((QN.f2).aY) (by assumption) (by omega) (by omega)) ?_)))))))))))))
 rintro l1 w1 H1
 have ado := V.kp (H1.f4.f4.f4.f4)
 refine eU ado (fun W hW => (Kp.h hW).right.f3.f3.f3) ?_
 refine jQ 13 O ado (fun _ => eX (zl := [.slice none 0 0, .slice none 0 0, .int .i64 0]) (pl := [(0, 1), (1, 1), (2, 1)]) [_, _, _] gV zeroValue166 O (fun w => by kernel_rfl) O (.one (Rd.one ((H1.f4).pU)) (.one (Rd.one ((H1).aY)) (.on .nil))) O) ?_
 refine oV 14 O (jf (l := [_, _, _]) H1 O O) ?_
 rintro _ w2 ⟨b2, rfl, H2⟩
 have yD := V.kp (H2.f5.f5.f5.f5.f5)
 refine iD yD (by kernel_rfl) ?_
 refine jQ 15 O yD (fun _ => dY O) (sK (aW (mg (dF results154 O ?_))))
 have HQ := H2.f5.f5.f5.f5.f5
 simp only [Nat.zero_add, List.nil_append] at HQ
 exact ⟨_, _, O, HQ⟩
theorem Pz {pb pk : Nat} {pv gv : Value} {x md rs : Int} {t : ByteArray} {ov rn : Bool} (H : V w0 w (oO pb L pt mk • mQ pk E place • Row 9 1 nv m ys • vV 1 wv m xs • F)) (hE : E.length ≤ 60 ∧ (place < E.length ∨ place = 0) ∧ ∀ e ∈ E, e.length ≤ 1024) (hy : ∀ u ∈ ys, u.oneCell' = true) (hm : m ≤ 4097) (o1 : pv.oneCell' = true) (o2 : gv.oneCell' = true) :
  ig prog 115 #[.agg #[.pointer (some ⟨pb, 0, none⟩), .pointer (some ⟨pk, 0, none⟩), wv, nv, .int .i64 x, .string t, pv, gv, .int .i64 md, .bool ov, .int .i64 rs, .bool rn]] w fun v w' => ∃ qb qk nv',
   v = .agg #[.pointer (some ⟨qb, 0, none⟩), .pointer (some ⟨qk, 0, none⟩), wv, nv', .int .i64 x, .string t, pv, gv, .int .i64 md, .bool ov, .int .i64 rs, .bool rn] ∧
   V w0 w' (oO qb L pt mk • mQ qk E place • Row 9 1 nv' m ys • oO pb L pt mk • mQ pk E place • Row 9 1 nv m ys • vV 1 wv m xs • F) := by
 refine iK func115 ntmps115 ?_
 refine gW (jL (jf (l := [_, _, _, _, _, _, _, _, _, _, _, _]) H O O) ?_)
 rintro _ w1 ⟨b1, rfl, H1⟩
 refine jL (gK (l := [_, _, _, _, _, _, _, _, _, _, _, _]) H1 zeroValue172 O) ?_
 rintro _ w2 ⟨b2, rfl, H2⟩
 refine Yh (bK 0 dD O sizeOf163 O (gJ underlying163 O (H2.f2).get.2 O (dX O func152 (Nb H2.f3) ?_)))
 rintro _ w3 ⟨q3, rfl, H3⟩
 refine bK 0 dD O sizeOf163 O (aO (fQ 0 (l' := [_, _, _, _, _, _, _, _, _, _, _, _]) H3.f4 sizeOf163 O O (by first | rfl | assumption) O O) ?_)
 rintro _ w4 H4
 refine Yh (bK 1 dD O sizeOf164 O (gJ underlying164 O (H4).get.2 O (dX O func153 (Jh H4.f5 (by assumption)) ?_)))
 rintro _ w5 ⟨q5, rfl, H5⟩
 refine bK 1 dD O sizeOf164 O (aO (fQ 1 (l' := [_, _, _, _, _, _, _, _, _, _, _, _]) H5.f3 sizeOf164 O O (by first | rfl | assumption) O O) ?_)
 rintro _ w6 H6
 refine Yh (bK 2 dD O nU O (Z (oP 2 (xs := [_, _, _]) gV O nU O O (H6).get.2 O) (jL (gK (l := [_, _, _]) H6 zeroValue166 O) ?_)))
 rintro _ w7 ⟨b7, rfl, H7⟩
 refine aO (dw 0 (l' := [_, _, _]) (us := [_, _, _]) H7 nU O O O (bf (by first | rfl | exact Rd.one ((H7.f9).pU)) (bf (by first | rfl | exact Rd.one ((H7.f8).aY)) (aH bP))) O O) ?_
 rintro _ w8 H8
 refine Yh (dX O func154 (Ji H8.f9.f9.f3 (by assumption) (by omega)) ?_)
 rintro _ w9 ⟨q9, nv9, rfl, H9⟩
 refine dQ O (Z (fP gV O nU O O (H9).get.2) (bK 2 dD O nU O (aO (dw 2 (l' := [_, _, _, _, _, _, _, _, _, _, _, _]) (us := [_, _, _]) H9.f6 nU O O O (bf (by first | rfl | exact Rd.one ((H9.f5).pU)) (bf (by first | rfl | exact Rd.one ((H9.f2).aY)) (aH bP))) O O) ?_)))
 rintro _ w10 rD
 refine Yh (Z (fP dD O fD O O (rD).get.2) (aO (dw 0 (l' := [_, _, _, _, _, _, _, _, _, _, _, _]) (us := [_, _, _, _, _, _, _, _, _, _, _, _]) rD.f11 fD O O O (aH (aH (bf (by first | rfl | exact Rd.one ((rD.f6).pU)) (bf (by first | rfl | exact Rd.one ((rD.f3).aY)) (aH (aH (aH (aH (aH (aH (aH (aH bP)))))))))))) O O) ?_))
 rintro _ ED rM
 refine ZH ?_
 refine qY (.inl O) (Lh results115 O dD O (by rw [abv]; rfl) (rM).get.2) ?_
 exact ⟨_, _, _, O, rM.right.right.right.f2.right.f3.f3.f5.f7.f5.f6.f7⟩
theorem V.Zm {k : IntKind} (H : V w0 w (nD k v l • F)) : V w0 w (nD k v l • nD k v l • F) := H.sO
theorem V.Zn {A : List LE} (H : V w0 w (rC A • F)) : V w0 w (rC A • rC A • F) := H.sO
theorem V.Tq {h pb pk : Nat} {wv nv pv gv : Value} {A : List LE} {yf yt : Int} {ch : Bool} {u0 u1 u2 u3 u4 u5 u6 u7 u8 u9 ua ub : Value} (h1 : kG s [] A yf yt) (H : V w0 w (dS y (.cells (.pointer (some ⟨h, 0, none⟩) :: .pointer (some ⟨pb, 0, none⟩) :: .pointer (some ⟨pk, 0, none⟩) :: wv :: nv :: .int .i64 s.c.place :: .string (jS s.hl s.c.tx s.c.place) :: pv :: gv :: .int .i64 s.c.mode :: .bool s.c.over :: .int .i64 s.c.res :: .bool s.c.run :: u0 :: u1 :: u2 :: u3 :: u4 :: u5 :: u6 :: u7 :: u8 :: u9 :: ua :: ub :: .bool s.given :: .bool s.minus :: .int .i64 s.arg :: .int .i64 s.Ae :: .int .i64 s.U8 :: .int .i64 s.U9 :: .int .i64 s.su :: .bool s.inn :: .int .i64 s.cls :: .int .i64 yf :: .int .i64 yt :: .bool s.argues :: .bool s.killed :: .bool s.lT :: .slice none 0 0 :: .bool s.whole :: .bool ch :: []).toArray 174 (0, 0)) • oO pb s.c.L s.c.pt s.c.mark • mQ pk s.c.E s.c.at_ • vV 1 wv (s.hl.length + 1) (strs (oM s.hl)) • Row 9 1 nv (s.hl.length + 1) (strs (vT s.hl s.c.tx)) • nD .i64 pv (A.map (·.1)) • vV 1 gv A.length (A.map (·.2.1)) • rC A • jF h s.hl s.base s.most • Cc s.inn s.hl s.was [u0, u1, u2, u3, u4, u5, u6, u7, u8, u9, ua, ub] • F)) : V w0 w (pX y s • F) := by
  refine V.tV (y := y) (h := h) (pb := pb) (pk := pk) (wv := wv) (nv := nv) (pv := pv) (gv := gv) (ch := ch) (u0 := u0) (u1 := u1) (u2 := u2) (u3 := u3) (u4 := u4) (u5 := u5) (u6 := u6) (u7 := u7) (u8 := u8) (u9 := u9) (ua := ua) (ub := ub) (nw := .slice none 0 0) (es := []) h1 ?_
  rw [← h1.says]
  exact (H.tu none).of_eq (by unfold Kw; simp only [List.length_nil, List.flatMap_nil, List.map_nil]; ac_rfl)
theorem V.Tt {h pb pk : Nat} {wv nv pv gv : Value} {A : List LE} {yf yt : Int} {ch : Bool} {u0 u1 u2 u3 u4 u5 u6 u7 u8 u9 ua ub : Value} (h1 : kG s [] A yf yt) (hi : s.inn = false) (H : V w0 w (dS y (.cells (.pointer (some ⟨h, 0, none⟩) :: .pointer (some ⟨pb, 0, none⟩) :: .pointer (some ⟨pk, 0, none⟩) :: wv :: nv :: .int .i64 s.c.place :: .string (jS s.hl s.c.tx s.c.place) :: pv :: gv :: .int .i64 s.c.mode :: .bool s.c.over :: .int .i64 s.c.res :: .bool s.c.run :: u0 :: u1 :: u2 :: u3 :: u4 :: u5 :: u6 :: u7 :: u8 :: u9 :: ua :: ub :: .bool s.given :: .bool s.minus :: .int .i64 s.arg :: .int .i64 s.Ae :: .int .i64 s.U8 :: .int .i64 s.U9 :: .int .i64 s.su :: .bool false :: .int .i64 s.cls :: .int .i64 yf :: .int .i64 yt :: .bool s.argues :: .bool s.killed :: .bool s.lT :: .slice none 0 0 :: .bool s.whole :: .bool ch :: []).toArray 174 (0, 0)) • oO pb s.c.L s.c.pt s.c.mark • mQ pk s.c.E s.c.at_ • vV 1 wv (s.hl.length + 1) (strs (oM s.hl)) • Row 9 1 nv (s.hl.length + 1) (strs (vT s.hl s.c.tx)) • nD .i64 pv (A.map (·.1)) • vV 1 gv A.length (A.map (·.2.1)) • rC A • jF h s.hl s.base s.most • F)) (hu : ([u0, u1, u2, u3, u4, u5, u6, u7, u8, u9, ua, ub].all fun x => x.oneCell') = true) : V w0 w (pX y s • F) := by
  refine V.Tq (y := y) (h := h) (pb := pb) (pk := pk) (wv := wv) (nv := nv) (pv := pv) (gv := gv) (ch := ch) (u0 := u0) (u1 := u1) (u2 := u2) (u3 := u3) (u4 := u4) (u5 := u5) (u6 := u6) (u7 := u7) (u8 := u8) (u9 := u9) (ua := ua) (ub := ub) h1 ?_
  rw [hi]
  exact (H.Eu (hl := s.hl) (c := s.was) (u := [u0, u1, u2, u3, u4, u5, u6, u7, u8, u9, ua, ub]) hu).of_eq (by ac_rfl)
theorem J3 (H : V w0 w (pX y s • F)) : ig prog 61 #[.pointer (some ⟨y, 0, none⟩)] w fun v w' => v = .int .i64 s.Dc ∧ V w0 w' (pX y s.kN • F) := by
 refine iK func61 ntmps61 ?_
 refine jy O (aK (aK ?_))
 obtain ⟨Yl, JG, JH, JI, JJ, UN, UO, A_y, UQ, UR, Pv, Px, Py, JK, JL, JM, JO, JQ, JR, JU, JV, JW, JX, JY, JZ, qL, Dy, wB⟩ := (H).Pn
 have hE9 := qL.rx.1.2
 have hy9 := @KH (vT s.hl s.c.tx)
 obtain ⟨hv9, hk9, _⟩ := (wB.f9).SI
 have hhl := hk9.1
 have o1 := (wB.f6).jV.one
 have o2 := (wB.f7).pU.one
 refine aA (nZ O O (bK 32 aS O aT O (gJ bW O (wB).get.2 O (gQ O (fun h1 => ?_) (fun h1 => ?_)))))
 ·(try simp only [aC] at h1)
  have hin := h1
  refine jB O (ay (dF results61 O ?_))
  have Ua := wB.f12.f12.f12.f12.f12.f12.f12.f12.f12.f12.f12.f12
  have RV := V.tV (s := s) qL Ua
  exact ⟨by unfold dN.Dc; rw [if_pos hin], by rw [IQ hin]; exact RV⟩
 ·(try simp only [aC] at h1)
  have hin := h1
  refine fG (bM O (dQ O (bK 32 aS O aT O (aO (lG 32 wB aT) ?_))))
  rintro _ w5 H5
  refine sH O (nZ O O (bK 1 aS O fD O (Z (oP 1 (xs := [_, _, _, _, _, _, _, _, _, _, _, _]) dD O fD O O (H5).get.2 O) (dX O func115 (Pz H5.f4.f5.f5.f5 (by assumption) (by assumption) (by omega) (by assumption) (by assumption)) ?_))))
  rintro _ w6 ⟨qb6, qk6, nv6, rfl, H6⟩
  refine dQ O (bK 13 aS O fD O (aO (dw 13 (l' := [_, _, _, _, _, _, _, _, _, _, _, _, _, _, _, _, _, _, _, _, _, _, _, _, _, _, _, _, _, _, _, _, _, _, _, _, _, _, _, _, _, _]) (us := [_, _, _, _, _, _, _, _, _, _, _, _]) H6.f8 fD O O O (aH (aH (bf (by first | rfl | exact Rd.one ((H6.f7).pU)) (bf (by first | rfl | exact Rd.one ((H6.f3).aY)) (aH (aH (bf (by first | rfl | exact Rd.one ((H6.f9).jV)) (bf (by first | rfl | exact Rd.one ((H6.f10).pU)) (aH (aH (aH (aH bP)))))))))))) O O) ?_))
  rintro _ w7 H7
  refine sH O (jr O O (dQ O (bK 33 aS O aF O (aO (lG 33 H7 aF) ?_))))
  rintro _ w8 H8
  refine dQ O (bK 34 aS O aF O (aO (lG 34 H8 aF) ?_))
  rintro _ w9 H9
  refine dQ O (bK 35 aS O aF O (aO (lG 35 H9 aF) ?_))
  rintro _ w10 rD
  refine sH O (jr O O (jr O O (dQ O (bK 36 aS O aT O (aO (lG 36 rD aT) ?_)))))
  rintro _ ED rM
  refine dQ O (bK 37 aS O aT O (aO (lG 37 rM aT) ?_))
  rintro _ w12 vX
  refine dQ O (bK 38 aS O aT O (aO (lG 38 vX aT) ?_))
  rintro _ PO xM
  refine dQ O (bK 40 aS O aT O (aO (lG 40 xM aT) ?_))
  rintro _ TN BJ
  refine dQ O (bK 41 aS O aT O (aO (lG 41 BJ aT) ?_))
  rintro _ TV zH
  refine sH O (dQ O (bK 39 aS O bV O (aO (lG 39 zH bV) ?_)))
  rintro _ w16 zB
  refine iy (jB O (dF results61 O ?_))
  have hin' : s.inn = false := by simpa using hin
  have QA := zB.f8
  have QB := QA.XQ
  have aeM := QB.f10
  have aeN := aeM.Zm
  have abj := aeN.f12
  have abk := abj.XQ
  have Xa := abk.f14
  have Xb := Xa.Zn
  have abw := Xb.f2.f4.f6.f12.f9.f12.f12
  have abx := V.Zl (c := s.c) qL.Gf qL.placed abw
  have HX := abx.f11.right.f11.right.f11.right.f10.f3.f4.f5.f10.f7.f10.f10.f10
  rw [show s.Ae = s.c.last from if_neg (by simp [hin']), show s.U8 = s.c.fr from if_neg (by simp [hin']), show s.U9 = s.c.to from if_neg (by simp [hin'])] at HX
  exact ⟨by unfold dN.Dc; rw [if_neg (by simp [hin'])], by rw [wU hin']; exact V.Tq (wU hin' ▸ qL.begin hin') HX⟩
end
end Go.Proofs.YtpdeedplgmbopaaGreatDoor
end
section
namespace Go.Proofs.YtpdeedplgmbopaaGreatDoor
open Go.RowKit
section
variable {w0 w : World} {F : HP} {p y h : Nat} {s : dN} {l dl il : List Int} {v d i : Value} {a x j k : Int}
end
section
variable {w0 w : World} {F : HP} {p y h : Nat} {s : dN} {l : List Int} {v : Value} {j k : Int}
theorem kG.cls {es : List eG} {A : List LE} {yf yt : Int} (h : kG s es A yf yt) (c : Int) (hc : c ≠ 2) : kG { s with cls := c } es A yf yt :=
  ⟨h.ok, ⟨h.rx.1, h.rx.2.1, fun _ h2 => absurd h2 hc⟩, h.says, h.Gf, h.placed, h.XY⟩
end
end Go.Proofs.YtpdeedplgmbopaaGreatDoor
end
