import Derived.Test.YtgndbccogcofjaaGreatDoorZ2
import Derived.Test.YtgndbccogcofjaaGreatDoorZ17
import Derived.Test.YtgndbccogcofjaaGreatDoorCards
import Derived.Test.YtgndbccogcofjaaGreatDoorZ6
import Derived.SevenTiedAt
set_option linter.unusedSimpArgs false
set_option linter.unusedVariables false
/- EmacsNone in its first form, as the card states it, for whatever the program's variables hold as its text lays them. No condition beside the form's own.
Texts of mine, joined, their names in short: EmBegun EmNone LawEmNone HasEmNone. -/
section
namespace Go.Proofs.YtgndbccogcofjaaGreatDoor
open Go.RowKit
open _root_.Go.Proofs.Tryz
def yx : ByteArray := ⟨#[107, 105, 108, 108, 45, 119, 111, 114, 100]⟩
def Oo : ByteArray := ⟨#[98, 97, 99, 107, 119, 97, 114, 100, 45, 107, 105, 108, 108, 45, 119, 111, 114, 100]⟩
def Og : ByteArray := ⟨#[121, 97, 110, 107]⟩
def VB : ByteArray := ⟨#[101, 110, 100, 45, 111, 102, 45, 108, 105, 110, 101]⟩
theorem vI : yY yx = some (.func (.func 71) #[] #[]) := by kernel_rfl
theorem DL : yY Og = some (.func (.func 78) #[] #[]) := by kernel_rfl
theorem BK : sH yx 1 = 0 := uH (by rw [vI]; rfl) (by rintro (h | ⟨h | h | h, -⟩); omega; exact absurd h (by rw [ByteArray.toList_eq, ByteArray.toList_eq]; decide); exact absurd h (by rw [ByteArray.toList_eq, ByteArray.toList_eq]; decide); exact absurd h (by rw [ByteArray.toList_eq, ByteArray.toList_eq]; decide))
theorem Jc : sH Og 1 = 0 := uH (by rw [DL]; rfl) (by rintro (h | ⟨h | h | h, -⟩); omega; exact absurd h (by rw [ByteArray.toList_eq, ByteArray.toList_eq]; decide); exact absurd h (by rw [ByteArray.toList_eq, ByteArray.toList_eq]; decide); exact absurd h (by rw [ByteArray.toList_eq, ByteArray.toList_eq]; decide))
section
variable {w0 : World} {keys : List Int} {s : bD}
theorem Jd (hT : wL w0) : Sz w0 (.func (.func 71) #[] #[]) keys s (s.PK s.count) (s.PL s.count) := fun F W c e lv kv H hk => ⟨_, [], [], _, _, rfl, func71, rfl, rfl, GI hT F W c e lv kv H hk⟩
theorem SC : Sz w0 (.func (.func 78) #[] #[]) keys s s.vC s.pY := fun F W c e lv kv H hk => ⟨_, [], [], _, _, rfl, func78, rfl, rfl, PN F W c e lv kv H hk⟩
end
namespace bD
variable (s : bD)
def Lr : Int := (s.bT.PL s.bT.count).tX (s.bT.PK s.bT.count)
def kU : bD := (s.bT.PL s.bT.count).ji (s.bT.PK s.bT.count)
def Oq : Int := (s.bT.PL (-s.bT.count)).tX (s.bT.PK (-s.bT.count))
def Ot : bD := (s.bT.PL (-s.bT.count)).ji (s.bT.PK (-s.bT.count))
def SE : Int := s.bT.pY.tX s.bT.vC
def Je : bD := s.bT.pY.ji s.bT.vC
def VD : Int := (s.bT.sQ s.bT.c.L.length).tX (s.bT.Bc s.bT.c.L.length)
def VE : bD := (s.bT.sQ s.bT.c.L.length).ji (s.bT.Bc s.bT.c.L.length)
end bD
theorem SG (W : World) (sz : Nat) : Rd W sz (.slice none 0 0) 0 [] := ⟨by simp, none, 0, rfl, by omega, by decide, fun h => absurd h (by omega)⟩
def ES : List Int := [102, 111, 111, 32, 98, 97, 114]
def CO : bD := QK [] ES 3
theorem SH : CO.Lr = 0 := by kernel_rfl
theorem SI : CO.kU.c.L = [102, 111, 111] := by kernel_rfl
theorem SK : CO.kU.inn = false := by kernel_rfl
theorem SL : CO.kU.SE = 0 := by kernel_rfl
theorem SN : CO.kU.Je.c.L = ES := by kernel_rfl
theorem SQ : CO.kU.Je.c.pt = 7 := by kernel_rfl
theorem SS : (utf8 CO.kU.c.L).toList = (ByteArray.mk #[102, 111, 111]).toList := by
  rw [SI]
  exact congrArg ByteArray.toList (by rfl)
theorem SV : (utf8 CO.kU.Je.c.L).toList = (ByteArray.mk #[102, 111, 111, 32, 98, 97, 114]).toList := by
  rw [SN]
  exact congrArg ByteArray.toList (by rfl)
section
variable {w0 w : World} {F : HP}
theorem zh {s : ByteArray} {l : List Int} (H : aB w0 w F) (hl : Conv.runesFrom s s.size 0 #[] = (l.map (Value.int .i32)).toArray) (hb : l.length ≤ 70368744177664) :
  eG prog 23 #[.string s] w fun v w' => aB w0 w' (iE 21 .i32 v l • F) := by
 refine fP func23 ntmps23 ?_
 dsimp only [aX, Nat.reduceAdd]
 refine ay (ah (aV rfl (aA (aj (ay (ah (aO rfl (jo (Fb H underlying9 underlying22 underlying21 rfl hl hb) ?_))))))))
 rintro u w1 H1
 refine aV rfl (aA (aj (aJ (aH (.inl rfl) results23 rfl ?_))))
 exact H1
theorem ET (H : aB w0 w F) (hT : wL w0) : eG prog 10 #[] w fun v w' => v = .bool true ∧ aB w0 w' F := by
 refine fP func10 ntmps10 ?_
 dsimp only [aX, Nat.reduceAdd]
 refine ay (ah (aV rfl (aA (aj (ay (ah (dn rfl func23 (zh H (l := ES) (by kernel_rfl) (by decide)) ?_)))))))
 rintro u1 w1 H1
 refine aW (fE (zl := [.slice none 0 0, .slice none 0 0, .int .i64 0]) (pl := [(0, 1), (1, 1), (2, 1)]) [_, _, _] underlying49 zeroValue49 rfl (fun w => by kernel_rfl) rfl (.zero (zs := [.slice none 0 0]) rfl (.one (Rd.one ((H1).aT)) (.one (by first | rfl | assumption) .nil))) rfl) ?_
 refine dn rfl func20 (ER (l := []) (ln := ES) (pt := 3) H1 (fun W _ => SG W 2) (fun W HW => (HW).aT) (by decide) (by rfl) (by decide)) ?_
 rintro _ w2 ⟨e2, rfl, H2⟩
 refine aV rfl ?_
 have Vy := H2.f2.right
 refine aA (aj (ay (ay (ah (aO rfl (aW (fO underlying26 rfl rfl) (fV rfl (fun h => by exfalso; (try simp only [aI] at h); simp at h) (fun h1 => ?_))))))))
 (try simp only [aI] at h1)
 refine bf (aO rfl (bf (jo (zQ (k := .i32) (l := [100]) Vy underlying22 sizeOf21 zeroValue21 rfl rfl rfl (by decide)) ?_)))
 rintro l4 w4 H4
 refine bf (dn rfl func11 (DI (s := CO) (name := yx) (keys := [100]) H4.f2 rfl (fun W HW => (HW).aT) vI BK (Jd hT)) ?_)
 rintro _ w5 ⟨rfl, H5⟩
 refine bf (aW (dU rfl rfl) (eY rfl rfl (fV rfl (fun h => by exfalso; (try simp only [aI] at h); exact h SH) (fun h2 => ?_))))
 (try simp only [aI] at h2)
 refine bf (aO rfl (bf (dn rfl func21 (qg H5) ?_)))
 rintro _ w6 ⟨u6, rfl, H6⟩
 refine bf (aW (uo 0 underlying53 rfl rfl (iC underlying22 rfl) rfl rfl) (bf (aW (yE underlying22 underlying9 underlying21 rfl ((H6).aT)) (bf (aW (Ko rfl rfl) (eY rfl rfl (aA (aj (aQ rfl (fun h => by exfalso; (try simp only [aI] at h); exact h SS) (fun h3 => ?_))))))))))
 (try simp only [aI] at h3)
 refine aS (aj (ay (ah (aO rfl (jo (zQ (k := .i32) (l := [121]) H6 underlying22 sizeOf21 zeroValue21 rfl rfl rfl (by decide)) ?_)))))
 rintro l7 w7 H7
 refine dn rfl func11 (DI (s := CO.kU) (name := Og) (keys := [121]) H7.f3 SK (fun W HW => (HW).aT) DL Jc SC) ?_
 rintro _ w8 ⟨rfl, H8⟩
 refine aW (gI rfl rfl) (fV rfl (fun h4 => ?_) (fun h => by exfalso; (try simp only [aI] at h); exact h SL))
 (try simp only [aI] at h4)
 refine bf (aO rfl (bf (dn rfl func21 (qg H8) ?_)))
 rintro _ w9 ⟨u9, rfl, H9⟩
 refine bf (aW (uo 0 underlying53 rfl rfl (iC underlying22 rfl) rfl rfl) (bf (aW (yE underlying22 underlying9 underlying21 rfl ((H9).aT)) (bf (aW (uy rfl rfl) (fG rfl rfl (fV rfl (fun h5 => ?_) (fun h => by exfalso; (try simp only [aI] at h); exact h SV))))))))
 (try simp only [aI] at h5)
 refine bf (aO rfl (bf (dn rfl func21 (qg H9.f2) ?_)))
 rintro _ w10 ⟨Zv, rfl, ng⟩
 refine bf (aW (uo 1 underlying53 rfl rfl (iC underlying3 rfl) rfl rfl) (bf ?_))
 refine aW (uq (gI rfl rfl) (by exact beq_iff_eq.2 SQ)) ?_
 refine fG rfl rfl (aV rfl (aA (aj (aJ (aH (.inl rfl) results10 rfl ?_)))))
 exact ⟨rfl, ng.right.right.right.right.right.right⟩
end
end Go.Proofs.YtgndbccogcofjaaGreatDoor
end
section
namespace Go.Proofs.YtgndbccogcofjaaGreatDoor
open Go.RowKit
open _root_.Go.Proofs.Tryz
def EU (w0 : World) (F : HP) (bv : Value) : Prop := ∀ (G : HP) (W : World), aB w0 W (G • F) → eG prog 32 #[bv] W fun v w' => v = .bool true ∧ W = w'
theorem GU {w : World} : eG prog 32 #[.pointer none] w fun v w' => v = .bool true ∧ w = w' := by
 refine fP func32 ntmps32 ?_
 dsimp only [aX, Nat.reduceAdd]
 refine ay (ah (aV rfl (aA (aj (ay (ah (aO rfl (aW (fO underlying26 rfl rfl) (fV rfl (fun h1 => ?_) (fun h => by exfalso; (try simp only [aI] at h); simp at h))))))))))
 (try simp only [aI] at h1)
 refine bC (bC (bC (bC (bC (fG rfl rfl (aV rfl (aA (aj (aJ (aH (.inl rfl) results32 rfl ?_))))))))))
 exact ⟨rfl, rfl⟩
section
variable {w0 w : World} {F G : HP} {bv v u : Value}
theorem Jf {b : Nat} {cs : Array Value} (H : aB w0 w (dh b (.cells cs 37 (0, 0)) • F)) (h : cs[11]? = some (.pointer none)) : eG prog 32 #[.pointer (some ⟨b, 0, none⟩)] w fun v w' => v = .bool true ∧ w = w' := by
 refine fP func32 ntmps32 ?_
 dsimp only [aX, Nat.reduceAdd]
 refine ay (ah (aV rfl (aA (aj (ay (ah (aO rfl (aW (fO underlying26 rfl rfl) (fV rfl (fun h1 => ?_) (fun h1 => ?_))))))))))
 ·(try simp only [aI] at h1)
  try (exfalso; first | contradiction | omega)
  all_goals
   refine bC (bC (bC (bC (bC (fG rfl rfl (aV rfl (aA (aj (aJ (aH (.inl rfl) results32 rfl ?_))))))))))
   exact ⟨rfl, rfl⟩
 ·(try simp only [aI] at h1)
  try (exfalso; first | contradiction | omega)
  all_goals
   refine bf (aO rfl (bf (bK rfl (bf (aZ 11 underlying37 rfl sizeOf33 rfl (bf (dP underlying33 rfl H.get.2 h (bf (aW (fO underlying33 rfl rfl) (eY rfl rfl (aV rfl (aA (aj (aJ (aH (.inl rfl) results32 rfl ?_)))))))))))))))
   exact ⟨rfl, rfl⟩
theorem GV (H : aB w0 w (G • F)) (hu : EU w0 F bv) : eG prog 24 #[bv] w fun v' w' => v' = .pointer none ∧ w = w' := by
 refine fP func24 ntmps24 ?_
 dsimp only [aX, Nat.reduceAdd]
 refine ay (ah (aV rfl (aA (aj (ay (ay (ah (aO rfl (dn rfl func32 (hu _ _ H) ?_)))))))))
 rintro _ _ ⟨rfl, rfl⟩
 refine aA (aj (uI (ay (ah (aV rfl (aA (aj (aJ (aK (aH (.inl rfl) results24 rfl ?_))))))))))
 exact ⟨rfl, rfl⟩
theorem Oh (H : aB w0 w (G • F)) (hu : EU w0 F bv) : eG prog 11 #[bv, v, u] w fun v' w' => v' = .int .i64 2 ∧ w = w' := by
 refine fP func11 ntmps11 ?_
 dsimp only [aX, Nat.reduceAdd]
 refine ay (ah (aV rfl (aA (aj (ay (ay (ah (aO rfl (dn rfl func24 (GV H hu) ?_)))))))))
 rintro _ _ ⟨rfl, rfl⟩
 refine aW (fO underlying26 rfl rfl) (aA (aj (aQ rfl (fun h1 => ?_) (fun h => by exfalso; (try simp only [aI] at h); simp at h))))
 (try simp only [aI] at h1)
 refine ay (ah (aV rfl (aA (aj (aJ (aK (aH (.inl rfl) results11 rfl ?_)))))))
 exact ⟨rfl, rfl⟩
end
end Go.Proofs.YtgndbccogcofjaaGreatDoor
end
section
namespace Go.Proofs.YtgndbccogcofjaaGreatDoor
open Go.RowKit
open _root_.Go.Proofs.Tryz
def J5 : List Value := [.pointer none, .pointer none, .pointer none, .map none, .int .i64 0, .bool false, .int .i64 0, .int .i64 0, .int .i64 0, .int .i64 0, .bool false, .pointer none, .pointer none, .bool false, .bool false, .int .i64 0, .bool false, .pointer none, .pointer none, .pointer none, .map none, .int .i64 0, .bool false, .int .i64 0, .int .i64 0, .int .i64 0, .int .i64 0, .bool false, .int .i64 0, .bool false, .bool false, .bool false, .bool false, .slice none 0 0]
theorem Jg {w : World} {name : ByteArray} {rv : Value} (hT : wL w) (hr1 : rv.oneCell' = true) :
    eG prog 3 #[.agg #[.string name, rv]] w fun v w' => v = .bool true ∧ Below w.heap.size w w' := by
  obtain ⟨F, H⟩ : ∃ F, aB w w F := ⟨_, aB.start w⟩
  refine fP func3 ntmps3 ?_
  dsimp only [aX, Nat.reduceAdd]
  refine ay (ah (jo (gV (l := [_, _]) H rfl rfl) ?_))
  rintro _ w1 ⟨b1, rfl, H1⟩
  refine aV rfl (aA (aj (ay (ay (ah (dn rfl func10 (ET H1 hT) ?_))))))
  rintro _ w2 ⟨rfl, H2⟩
  refine aW (kC rfl) (aA (aj (aQ rfl (fun h => by exfalso; (try simp only [aI] at h); simp at h) (fun h1 => ?_))))
  (try simp only [aI] at h1)
  refine aS (aj (ay (ay (ah (aW (fE (zl := [.pointer none, .pointer none, .pointer none, .map none, .int .i64 0, .bool false, .int .i64 0, .int .i64 0, .int .i64 0, .int .i64 0, .bool false, .pointer none, .pointer none, .bool false, .bool false, .int .i64 0, .bool false, .pointer none, .pointer none, .pointer none, .map none, .int .i64 0, .bool false, .int .i64 0, .int .i64 0, .int .i64 0, .int .i64 0, .bool false, .int .i64 0, .bool false, .bool false, .bool false, .bool false, .slice none 0 0]) (pl := [(0, 11), (11, 1), (12, 1), (13, 1), (14, 1), (15, 1), (16, 1), (17, 11), (28, 1), (29, 1), (30, 1), (31, 1), (32, 1), (33, 1)]) [_, _, _, _, _, _, _, _, _, _, _, _, _, _, _, _, _, _, _, _, _, _, _, _, _, _, _, _, _, _, _, _, _, _] underlying37 zeroValue37 rfl (fun w => by kernel_rfl) rfl (.zero (zs := [.pointer none, .pointer none, .pointer none, .map none, .int .i64 0, .bool false, .int .i64 0, .int .i64 0, .int .i64 0, .int .i64 0, .bool false]) rfl (.zero (zs := [.pointer none]) rfl (.zero (zs := [.pointer none]) rfl (.zero (zs := [.bool false]) rfl (.zero (zs := [.bool false]) rfl (.zero (zs := [.int .i64 0]) rfl (.zero (zs := [.bool false]) rfl (.zero (zs := [.pointer none, .pointer none, .pointer none, .map none, .int .i64 0, .bool false, .int .i64 0, .int .i64 0, .int .i64 0, .int .i64 0, .bool false]) rfl (.zero (zs := [.int .i64 0]) rfl (.zero (zs := [.bool false]) rfl (.zero (zs := [.bool false]) rfl (.zero (zs := [.bool false]) rfl (.zero (zs := [.bool false]) rfl (.zero (zs := [.slice none 0 0]) rfl .nil)))))))))))))) rfl) (jo (gV (l := [_, _, _, _, _, _, _, _, _, _, _, _, _, _, _, _, _, _, _, _, _, _, _, _, _, _, _, _, _, _, _, _, _, _]) H2 rfl rfl) ?_))))))
  rintro _ w3 ⟨b3, rfl, H3⟩
  refine jo (kM (vs := [.pointer none, _]) H3 underlying38 sizeOf26 zeroValue26 rfl rfl rfl (by decide) (aC (by first | rfl | assumption) (aC (by first | rfl | assumption) bP))) ?_
  rintro l4 w4 H4
  refine aW (gW ((H4).aT) underlying38 rfl) (aO rfl (aA (aj (bg ?_))))
  refine ig [(1, _), (9, _), (10, _)] (fun (k : Nat) => [(11, .int .i64 (k : Int))]) (fun (k : Nat) W => k ≤ 2 ∧ aB w W (dh b1 (.cells #[.string name, rv] 24 (0, 0)) • Row 26 1 l4 2 [.pointer none, .pointer (some ⟨b3, 0, none⟩)] • dh b3 (.cells J5.toArray 37 (0, 0)) • F)) (fun (k : Nat) => 2 - k) (0) (Sub.cons rfl (Sub.cons rfl (Sub.cons rfl (Sub.nil _)))) (Sub.cons rfl (Sub.nil _)) ⟨by omega, H4.f2.f2.f3⟩ ?_
  rintro k w5 ⟨hk, HL⟩
  dsimp only [List.cons_append, List.nil_append]
  refine ay (ah (aW (eU rfl rfl) (aA (aj (ay (aQ rfl (fun h2 => ?_) (fun h2 => ?_)))))))
  · (try simp only [aI] at h2)
    refine aS (aj (ay (bg (ay (ah ?_)))))
    obtain ⟨bl4, ol4, cl4, el4⟩ := Rd.yX ((HL.f2).aT) (by omega)
    cases el4
    refine aW (iK underlying38 sizeOf26 rfl rfl (by omega)) ?_
    refine aW (nU (iC underlying26 rfl) rfl (by first | exact Rd.Hg ((HL.f2).aT) (by omega) | exact Rd.S9 ((HL.f2).aT) (by omega) | exact Rd.QW ((HL.f2).aT) (by omega))) ?_
    refine aV rfl (aA (aj (ay ?_)))
    have hk2 : k < 2 := by omega
    have hu : EU w (dh b3 (.cells J5.toArray 37 (0, 0)) • F) ([Value.pointer none, .pointer (some ⟨b3, 0, none⟩)].getD k undef) := by
      rcases (show k = 0 ∨ k = 1 from by omega) with rfl | rfl
      · exact fun G W HW => GU
      · exact fun G W HW => Jf HW.swap rfl
    refine ah (aO rfl (aZ 0 underlying24 rfl sizeOf9 rfl (dP underlying9 rfl (HL).get.2 rfl (aZ 1 underlying24 rfl sizeOf22 rfl (dP underlying22 rfl (HL).get.2 rfl (dn rfl func11 (Oh (HL.f3.f3.f3).g2 hu) ?_))))))
    rintro _ _ ⟨rfl, rfl⟩
    refine aW (dU rfl rfl) (aA (aj (aQ rfl (fun h => by exfalso; (try simp only [aI] at h); simp at h) (fun h3 => ?_))))
    (try simp only [aI] at h3)
    refine aS (aP (aj (ah (aW (fQ rfl rfl (by omega)) (aO rfl (aA ?_))))))
    refine fA (k + 1) ?_ ?_ ?_ ?_
    · exact (Sub.cons rfl (Sub.nil _))
    · exact (Sub.cons rfl (Sub.cons rfl (Sub.cons rfl (Sub.nil _))))
    · (try dsimp only)
      first | done | exact ⟨by omega, HL.f3.f3.f3⟩
    · (try dsimp only); omega
  · (try simp only [aI] at h2)
    refine fH (aY (aY (bV (aj (ay (ah (aV rfl (aA (aj (aJ (aH (.inl rfl) results3 rfl ?_)))))))))))
    exact ⟨rfl, HL.base⟩
end Go.Proofs.YtgndbccogcofjaaGreatDoor
end
section
set_option maxRecDepth 100000
namespace Go.Proofs.YtgndbccogcofjaaGreatDoor
open Go.ChangeShapes Go.WideShapes Go.ChangeAt Go.RowKit
theorem P7 {H : Type} {enc : TypeId × Value → H} {W : World} {B : Nat} {cs : List Value} (h : xP B enc Tryz.prog W 24 cs) : ∃ x0 v1 x1, cs = [.string x0, v1] ∧ x0.size ≤ B ∧ (jV W .i32 v1 x1 ∧ x1.length * 4 ≤ B ∧ ∀ n ∈ x1, (Lit.int .i32 n).wf = true) := by
  obtain ⟨hl, hf⟩ := h.struct Tryz.underlying24
  rw [show Tryz.prog.cellsOf 24 = 2 from by kernel_rfl] at hl
  match cs, hl with
  | [c0, c1], _ =>
    have h0 : xP B enc Tryz.prog W 9 (([c0, c1].drop 0).take (Tryz.prog.cellsOf 9)) := hf 0 _ rfl
    rw [show Tryz.prog.cellsOf 9 = 1 from by kernel_rfl] at h0
    obtain ⟨x0, e0, w0⟩ := h0.string Tryz.underlying9
    have h1 : xP B enc Tryz.prog W 22 (([c0, c1].drop 1).take (Tryz.prog.cellsOf 22)) := hf 1 _ rfl
    rw [show Tryz.prog.cellsOf 22 = 1 from by kernel_rfl] at h1
    obtain ⟨v1, x1, e1, g1, b1, w1⟩ := h1.ints Tryz.underlying22 Tryz.underlying21 (by kernel_rfl)
    rw [show Tryz.prog.bytesOf 21 = 4 from by kernel_rfl] at b1
    simp only [List.drop, List.take, List.cons.injEq, and_true] at e0 e1
    exact ⟨x0, v1, x1, by simp_all, w0, ⟨g1, b1, w1⟩⟩
set_option maxRecDepth 100000 in
theorem yA (os : Os) (started : os.Started) (H : Type) (enc : TypeId × Value → H) :
    ReturnsInHanded {} Tryz.checked os 3 .any (fun w args => (Rows.emacsNoneSpec.pre enc Tryz.prog Tryz.f3 Rows.emacsNoneRow.domain false w args ∧ laidMetH Tryz.prog Dc w) ∧ sizedMet enc Tryz.prog Tryz.f3 (OpenSpec.ofChange Rows.emacsNoneSpec) false w args) (Rows.emacsNoneSpec.post enc Tryz.prog Tryz.f3 false true false false) := by
  refine BP (C := Tryz.checked) (tb := 4) _ own laid started (by kernel_rfl) Tryz.func3 (congrArg Array.toList Tryz.params3) rfl Tryz.underlying4 rfl (by kernel_rfl) (fun ds hd => ?_)
    (ChangeSpec.witness_shaped (enc := enc) (C := Tryz.checked) (os := os) (X := fun w _ => laidMetH Tryz.prog Dc w) false (World.laidAll Tryz.prog os Dc) #[.agg #[.string ⟨#[]⟩, .slice none 0 0]] 8 (World.laidAll_os _ _ _) (World.shaped_of_ZipB (by kernel_rfl) (by kernel_rfl)) (by kernel_rfl) (by kernel_rfl) (by kernel_rfl) (L8 os _)) ?_
  · obtain ⟨a0, rfl⟩ := OG hd
    rfl
  intro W args hL hin
  have hT := OO hL
  obtain ⟨v1, rfl, ⟨_, o1⟩, i1⟩ := hin.one
  obtain ⟨cs, rfl, -⟩ := okWide_struct Tryz.underlying24 o1
  obtain ⟨name, rv, l, e, -, ⟨g, -, -⟩⟩ := P7 i1
  obtain rfl : cs = #[.string name, rv] := Array.ext' e
  exact Jg hT.1 (Rd.one g)
theorem yB : Rows.EmacsNoneSaid :=
  OpenClaim.holds_of_wide 3 Tryz.f3 rfl rfl rfl rfl rfl rfl rfl ⟨rfl, rfl, rfl, rfl, rfl⟩ rfl rfl rfl rfl rfl (by kernel_rfl) Tryz.func3 (by kernel_rfl)
    (of_decide_eq_true (by kernel_rfl)) (by unfold Func.isWrapper; first | (rw [if_pos (by decide +kernel)]; kernel_rfl) | (rw [if_neg (by decide +kernel)]; exact ⟨rfl, rfl⟩))
    (fun os started H enc _ => yA os started H enc)
theorem emacsNone_card : Rows.EmacsNoneCardSaid :=
  Claim7.holds_tied_plain_at .later [] [.data, .widerDeep, .widerDeep, .pinned] true (true, "3a649fd05a10beb239464f5874ead30cfcefe355d9a30c23777230efe21a8554") false
    yB (fun _ h => by cases h) (by kernel_rfl) (fun _ h => by cases h) emacsNone_row_tie rfl ⟨rfl, rfl⟩ (by kernel_rfl) rfl
    (fun f fn hf hfn => by
      obtain rfl : f = 3 := Option.some.inj ((show Tryz.prog.funcNamed "lanyard/lanyardlaw18.EmacsNone" = some 3 by kernel_rfl).symm.trans hf) |>.symm
      obtain rfl : fn = Tryz.f3 := (Option.some.inj (Tryz.func3.symm.trans hfn)).symm
      exact ⟨by kernel_rfl, fun j t ht => by
        rw [Tryz.params3] at ht
        have hm : t ∈ [24] := by simpa using Array.mem_of_getElem? ht
        have hall : ([24].all fun u => !Tryz.prog.wantsStandIn u) = true := by kernel_rfl
        exact (show Tryz.prog.wantsStandIn t = false by simpa using List.all_eq_true.1 hall t hm)⟩)
    (by kernel_rfl)
end Go.Proofs.YtgndbccogcofjaaGreatDoor
end
