import Derived.Test.YtgndbccogcofjaaGreatDoorZ2
import Derived.Test.YtgndbccogcofjaaGreatDoorZ17
import Derived.Test.YtgndbccogcofjaaGreatDoorCards
import Derived.Test.YtgndbccogcofjaaGreatDoorZ6
import Derived.SevenTiedAt
set_option linter.unusedSimpArgs false
set_option linter.unusedVariables false
/- EmacsKillsAll in its first form, as the card states it, for whatever the program's variables hold as its text lays them. No condition beside the form's own.
Texts of mine, joined, their names in short: EmBegun EmKM LawEmKills HasEmKills. -/
section
namespace Go.Proofs.YtgndbccogcofjaaGreatDoor
open Go.RowKit
open _root_.Go.Proofs.Tryz
def wz : ByteArray := ⟨#[107, 105, 108, 108, 45, 119, 111, 114, 100]⟩
def rG : ByteArray := ⟨#[98, 97, 99, 107, 119, 97, 114, 100, 45, 107, 105, 108, 108, 45, 119, 111, 114, 100]⟩
def Dq : ByteArray := ⟨#[121, 97, 110, 107]⟩
def Dt : ByteArray := ⟨#[101, 110, 100, 45, 111, 102, 45, 108, 105, 110, 101]⟩
theorem rH : yh wz = some (.func (.func 71) #[] #[]) := by kernel_rfl
theorem qV : yh rG = some (.func (.func 72) #[] #[]) := by kernel_rfl
theorem pG : yh Dq = some (.func (.func 78) #[] #[]) := by kernel_rfl
theorem yO : yh Dt = some (.func (.func 49) #[] #[]) := by kernel_rfl
theorem vS : qp wz 1 = 0 := qQ (by rw [rH]; rfl) (by rintro (h | ⟨h | h | h, -⟩); omega; exact absurd h (by rw [ByteArray.toList_eq, ByteArray.toList_eq]; decide); exact absurd h (by rw [ByteArray.toList_eq, ByteArray.toList_eq]; decide); exact absurd h (by rw [ByteArray.toList_eq, ByteArray.toList_eq]; decide))
theorem xI : qp rG 1 = 0 := qQ (by rw [qV]; rfl) (by rintro (h | ⟨h | h | h, -⟩); omega; exact absurd h (by rw [ByteArray.toList_eq, ByteArray.toList_eq]; decide); exact absurd h (by rw [ByteArray.toList_eq, ByteArray.toList_eq]; decide); exact absurd h (by rw [ByteArray.toList_eq, ByteArray.toList_eq]; decide))
theorem qx : qp Dq 1 = 0 := qQ (by rw [pG]; rfl) (by rintro (h | ⟨h | h | h, -⟩); omega; exact absurd h (by rw [ByteArray.toList_eq, ByteArray.toList_eq]; decide); exact absurd h (by rw [ByteArray.toList_eq, ByteArray.toList_eq]; decide); exact absurd h (by rw [ByteArray.toList_eq, ByteArray.toList_eq]; decide))
theorem D6 : qp Dt 1 = 0 := qQ (by rw [yO]; rfl) (by rintro (h | ⟨h | h | h, -⟩); omega; exact absurd h (by rw [ByteArray.toList_eq, ByteArray.toList_eq]; decide); exact absurd h (by rw [ByteArray.toList_eq, ByteArray.toList_eq]; decide); exact absurd h (by rw [ByteArray.toList_eq, ByteArray.toList_eq]; decide))
section
variable {w0 : World} {keys : List Int} {s : aZ}
theorem Du (hT : tH w0) : Py w0 (.func (.func 71) #[] #[]) keys s (s.Nl s.count) (s.J4 s.count) := fun F W c e lv kv H hk => ⟨_, [], [], _, _, rfl, func71, rfl, rfl, IU hT F W c e lv kv H hk⟩
theorem Dv (hT : tH w0) : Py w0 (.func (.func 72) #[] #[]) keys s (s.Nl (-s.count)) (s.J4 (-s.count)) := fun F W c e lv kv H hk => ⟨_, [], [], _, _, rfl, func72, rfl, rfl, Ai hT F W c e lv kv H hk⟩
theorem Dw : Py w0 (.func (.func 78) #[] #[]) keys s s.uI s.oP := fun F W c e lv kv H hk => ⟨_, [], [], _, _, rfl, func78, rfl, rfl, QX F W c e lv kv H hk⟩
theorem Ny : Py w0 (.func (.func 49) #[] #[]) keys s (s.qc s.c.L.length) (s.kP s.c.L.length) := fun F W c e lv kv H hk => ⟨_, [], [], _, _, rfl, func49, rfl, rfl, J5 F W c e lv kv H hk⟩
end
namespace aZ
variable (s : aZ)
def pI : Int := (s.bF.J4 s.bF.count).pY (s.bF.Nl s.bF.count)
def iK : aZ := (s.bF.J4 s.bF.count).iC (s.bF.Nl s.bF.count)
def kV : Int := (s.bF.J4 (-s.bF.count)).pY (s.bF.Nl (-s.bF.count))
def kW : aZ := (s.bF.J4 (-s.bF.count)).iC (s.bF.Nl (-s.bF.count))
def Gu : Int := s.bF.oP.pY s.bF.uI
def J9 : aZ := s.bF.oP.iC s.bF.uI
def IZ : Int := (s.bF.kP s.bF.c.L.length).pY (s.bF.qc s.bF.c.L.length)
def I4 : aZ := (s.bF.kP s.bF.c.L.length).iC (s.bF.qc s.bF.c.L.length)
end aZ
theorem Gv (W : World) (sz : Nat) : Rd W sz (.slice none 0 0) 0 [] := ⟨by simp, none, 0, rfl, by omega, by decide, fun h => absurd h (by omega)⟩
def Gw : List Int := [102, 111, 111, 32, 98, 97, 114]
def D7 : aZ := qU [] Gw 3
theorem Ui : D7.pI = 0 := by kernel_rfl
theorem Uj : D7.iK.c.L = [102, 111, 111] := by kernel_rfl
theorem Uk : D7.iK.dN = false := by kernel_rfl
theorem Ul : D7.iK.Gu = 0 := by kernel_rfl
theorem Um : D7.iK.J9.c.L = Gw := by kernel_rfl
theorem Un : D7.iK.J9.c.pt = 7 := by kernel_rfl
theorem Uo : (utf8 D7.iK.c.L).toList = (ByteArray.mk #[102, 111, 111]).toList := by
  rw [Uj]
  exact congrArg ByteArray.toList (by rfl)
theorem Ur : (utf8 D7.iK.J9.c.L).toList = (ByteArray.mk #[102, 111, 111, 32, 98, 97, 114]).toList := by
  rw [Um]
  exact congrArg ByteArray.toList (by rfl)
section
variable {w0 w : World} {F : HP}
theorem Aj {s : ByteArray} {l : List Int} (H : aB w0 w F) (hl : Conv.runesFrom s s.size 0 #[] = (l.map (Value.int .i32)).toArray) (hb : l.length ≤ 70368744177664) :
  fA prog 23 #[.string s] w fun v w' => aB w0 w' (iL 21 .i32 v l • F) := by
 refine fU func23 ntmps23 ?_
 dsimp only [aY, Nat.reduceAdd]
 refine ay (ah (aU rfl (aA (aj (ay (ah (aO rfl (ji (GN H underlying9 underlying22 underlying21 rfl hl hb) ?_))))))))
 rintro u w1 H1
 refine aU rfl (aA (aj (aJ (aI (.inl rfl) results23 rfl ?_))))
 exact H1
theorem uw (H : aB w0 w F) (hT : tH w0) : fA prog 10 #[] w fun v w' => v = .bool true ∧ aB w0 w' F := by
 refine fU func10 ntmps10 ?_
 dsimp only [aY, Nat.reduceAdd]
 refine ay (ah (aU rfl (aA (aj (ay (ah (bZ rfl func23 (Aj H (l := Gw) (by kernel_rfl) (by decide)) ?_)))))))
 rintro u1 w1 H1
 refine aW (eH (zl := [.slice none 0 0, .slice none 0 0, .int .i64 0]) (pl := [(0, 1), (1, 1), (2, 1)]) [_, _, _] underlying49 zeroValue49 rfl (fun w => by kernel_rfl) rfl (.zero (zs := [.slice none 0 0]) rfl (.one (Rd.one ((H1).aT)) (.one (by first | rfl | assumption) .nil))) rfl) ?_
 refine bZ rfl func20 (uq (l := []) (ln := Gw) (pt := 3) H1 (fun W _ => Gv W 2) (fun W HW => (HW).aT) (by decide) (by rfl) (by decide)) ?_
 rintro _ w2 ⟨e2, rfl, H2⟩
 refine aU rfl ?_
 have WJ := H2.f2.right
 refine aA (aj (ay (ay (ah (aO rfl (aW (eu underlying26 rfl rfl) (gB rfl (fun h => by exfalso; (try simp only [aH] at h); simp at h) (fun h1 => ?_))))))))
 (try simp only [aH] at h1)
 refine bf (aO rfl (bf (ji (jr (k := .i32) (l := [100]) WJ underlying22 sizeOf21 zeroValue21 rfl rfl rfl (by decide)) ?_)))
 rintro l4 w4 H4
 refine bf (bZ rfl func11 (kM (s := D7) (name := wz) (keys := [100]) H4.f2 rfl (fun W HW => (HW).aT) rH vS (Du hT)) ?_)
 rintro _ w5 ⟨rfl, H5⟩
 refine bf (aW (dK rfl rfl) (fG rfl rfl (gB rfl (fun h => by exfalso; (try simp only [aH] at h); exact h Ui) (fun h2 => ?_))))
 (try simp only [aH] at h2)
 refine bf (aO rfl (bf (bZ rfl func21 (jo H5) ?_)))
 rintro _ w6 ⟨u6, rfl, H6⟩
 refine bf (aW (kD 0 underlying53 rfl rfl (gI underlying22 rfl) rfl rfl) (bf (aW (zF underlying22 underlying9 underlying21 rfl ((H6).aT)) (bf (aW (LY rfl rfl) (fG rfl rfl (aA (aj (aN rfl (fun h => by exfalso; (try simp only [aH] at h); exact h Uo) (fun h3 => ?_))))))))))
 (try simp only [aH] at h3)
 refine aP (aj (ay (ah (aO rfl (ji (jr (k := .i32) (l := [121]) H6 underlying22 sizeOf21 zeroValue21 rfl rfl rfl (by decide)) ?_)))))
 rintro l7 w7 H7
 refine bZ rfl func11 (kM (s := D7.iK) (name := Dq) (keys := [121]) H7.f3 Uk (fun W HW => (HW).aT) pG qx Dw) ?_
 rintro _ w8 ⟨rfl, H8⟩
 refine aW (eX rfl rfl) (gB rfl (fun h4 => ?_) (fun h => by exfalso; (try simp only [aH] at h); exact h Ul))
 (try simp only [aH] at h4)
 refine bf (aO rfl (bf (bZ rfl func21 (jo H8) ?_)))
 rintro _ w9 ⟨u9, rfl, H9⟩
 refine bf (aW (kD 0 underlying53 rfl rfl (gI underlying22 rfl) rfl rfl) (bf (aW (zF underlying22 underlying9 underlying21 rfl ((H9).aT)) (bf (aW (vW rfl rfl) (fQ rfl rfl (gB rfl (fun h5 => ?_) (fun h => by exfalso; (try simp only [aH] at h); exact h Ur))))))))
 (try simp only [aH] at h5)
 refine bf (aO rfl (bf (bZ rfl func21 (jo H9.f2) ?_)))
 rintro _ w10 ⟨u10, rfl, mJ⟩
 refine bf (aW (kD 1 underlying53 rfl rfl (gI underlying3 rfl) rfl rfl) (bf ?_))
 refine aW (lD (eX rfl rfl) (by exact beq_iff_eq.2 Un)) ?_
 refine fQ rfl rfl (aU rfl (aA (aj (aJ (aI (.inl rfl) results10 rfl ?_)))))
 exact ⟨rfl, mJ.right.right.right.right.right.right⟩
end
end Go.Proofs.YtgndbccogcofjaaGreatDoor
end
section
namespace Go.Proofs.YtgndbccogcofjaaGreatDoor
open Go.RowKit
theorem ET {n x : Nat} (h : x ≤ n) : kZ n (x : Int) = x := by unfold kZ; omega
theorem LG {g : Int → Bool} {l : List Int} {x : Nat} (h : x < l.length) (hg : g (l.getD x 0) = true) : x < uD g l x := by
  unfold uD
  rw [List.drop_eq_getElem_cons h, List.takeWhile_cons_of_pos (by rwa [List.getD_eq_getElem?_getD, List.getElem?_eq_getElem h] at hg)]
  simp
theorem LH {g : Int → Bool} {l : List Int} {x : Nat} (h : x ≤ l.length) (h0 : 0 < x) (hg : g (l.getD (x - 1) 0) = true) : uF g l x < x := by
  obtain ⟨y, rfl⟩ : ∃ y, x = y + 1 := ⟨x - 1, by omega⟩
  have hy : y < l.length := by omega
  unfold uF
  rw [show l.take (y + 1) = l.take y ++ [l[y]] from by simp, List.reverse_append, List.reverse_singleton, List.singleton_append, List.takeWhile_cons_of_pos (by simpa [List.getD_eq_getElem?_getD, List.getElem?_eq_getElem hy] using hg)]
  simp only [List.length_cons]
  omega
theorem Rj {l : List Int} {x : Nat} (h : x ≤ l.length) : pV l x ≤ l.length ∧ (x < l.length → x < pV l x) := by
  unfold pV
  rw [ET h]
  have h1 := Fq (fun r => !bH r) l h
  have h2 := Fq bH l h1.2
  refine ⟨h2.2, fun hx => ?_⟩
  by_cases hl : bH (l.getD x 0) = true
  · have e : uD (fun r => !bH r) l x = x := Fp (Nat.le_refl _) h (fun j a b => by omega) (.inr (by show (!bH (l.getD x 0)) = false; rw [hl]; rfl))
    rw [e]; exact LG hx hl
  · have := LG (g := fun r => !bH r) hx (by show (!bH (l.getD x 0)) = true; rw [Bool.eq_false_iff.2 hl]; rfl)
    omega
theorem Nz {l : List Int} {x : Nat} (h : x ≤ l.length) : lu l x ≤ x ∧ (0 < x → lu l x < x) := by
  unfold lu
  rw [ET h]
  have h1 := Fv (fun r => !bH r) l x
  have h2 := Fv bH l (uF (fun r => !bH r) l x)
  refine ⟨by omega, fun hx => ?_⟩
  by_cases hl : bH (l.getD (x - 1) 0) = true
  · have e : uF (fun r => !bH r) l x = x := back_eq (Nat.le_refl _) h (fun j a b => by omega) (.inr (by show (!bH (l.getD (x - 1) 0)) = false; rw [hl]; rfl))
    rw [e]; exact LH h hx hl
  · have := LH (g := fun r => !bH r) h hx (by show (!bH (l.getD (x - 1) 0)) = true; rw [Bool.eq_false_iff.2 hl]; rfl)
    omega
theorem I5 (g : List Int → Int → Int) (l : List Int) (x : Int) : uJ g l 1 x = g l x := by
  show (if g l x = x then x else g l x) = _
  split
  · rename_i h; exact h.symm
  · rfl
theorem Ko (l : List Int) (p : Int) : qo l p 1 = Ll l p := by unfold qo; rw [if_pos (by decide)]; exact I5 _ _ _
theorem Kq (l : List Int) (p : Int) : qo l p (-1) = AB l p := by unfold qo; rw [if_neg (by decide)]; exact I5 _ _ _
section
variable {s : aZ} {A : List Int} {a b : Int} {k : Nat}
theorem Rk (s : aZ) (x : dU) : (s.kU x).argues = s.argues := by unfold aZ.kU; split; rfl; split <;> rfl
theorem Rl (s : aZ) (i j : Int) (l : List Int) : (s.iV i j l).argues = s.argues := by unfold aZ.iV; split; exact Rk _ _; rfl
theorem Rn (s : aZ) (i j : Int) (b : Bool) : (s.jP i j b).argues = s.argues := by unfold aZ.jP; split <;> rfl
theorem LJ (s : aZ) (i j : Int) (b : Bool) : (s.nH i j b).argues = s.argues := by unfold aZ.nH; split; exact (Rl _ _ _ _).trans (Rn _ _ _ _); rfl
theorem xJ (u : aZ) (h : u.dN = true) (h2 : u.argues = false) : (u.iC 0).given = false := by by_cases hp : u.put = [] <;> by_cases hc : u.cls = 2 <;> simp [aZ.iC, aZ.iT, aZ.dZ, aZ.dI, aZ.sJ, aZ.jM, aZ.iM, aZ.here, fB, hp, hc, h, h2]
theorem uy (h : s.dN = false) : s.bF.argues = false := by rw [sQ h]
theorem zX (h : s.dN = false) (hg : s.given = false) : s.bF.count = 1 := by rw [sQ h]; unfold aZ.count; rw [if_neg (by rw [show ({ s with dN := true, was := s.c, cls := 0, killed := false, jX := false, argues := false, whole := true, put := [] } : aZ).given = s.given from rfl, hg]; decide)]
theorem PS (h : s.dN = false) : (s.bF.iC 6).c.L = s.c.L := by
  unfold aZ.iC; rw [if_pos (gy s), if_neg (by decide)]
  unfold aZ.bF aZ.vG; rw [if_neg (by rw [h]; decide)]
theorem PU (h : s.dN = true) {i j : Int} {back : Bool} (hi : 0 ≤ i ∧ i ≤ j ∧ j ≤ s.c.L.length) (hL : s.c.L.length ≤ 1024) (hk : (s.jO i j back).1 = 0) : s.ED i j back = 0 := by
  have hc : s.jZ i j back = 0 := by
    unfold aZ.jZ
    rw [if_pos h, if_neg (by unfold aZ.jB; omega), hk]
  have hE : iU s.c.L i j [] = 0 := by unfold iU; rw [if_neg (by omega), if_neg (by simp; omega)]
  unfold aZ.ED
  rw [if_pos hc]
  have e : s.jP i j back = { s.yF (s.jO i j back).2.1 (s.jO i j back).2.2 with killed := true, cls := 1 } := by unfold aZ.jP; rw [if_pos hc]
  have ei : (s.jP i j back).dN = true := by rw [e]; exact h
  unfold aZ.jY
  rw [if_pos ei, show (s.jP i j back).c.L = s.c.L from by rw [e]; rfl, hE]
def KW (back : Bool) (A : List Int) (k : Nat) (s : aZ) : Prop := ∃ a b : Int, yN s A a b ∧ s.given = false ∧ (k : Int) ≤ b - a ∧ (if back = true then b = A.length else a = 0) ∧ (A = [] → s.c.E = [])
theorem KW.dN {back : Bool} (h : KW back A k s) : s.dN = false := let ⟨_, _, h, _⟩ := h; h.dN
theorem KW.all {back : Bool} (h : KW back A k s) (hk : A.length ≤ k) : s.c.L = [] := by
  obtain ⟨a, b, h, -, h2, -⟩ := h
  have := h.len; have := h.ok
  exact List.length_eq_zero_iff.1 (by omega)
theorem LK {i j : Int} (hi : 0 ≤ i ∧ i ≤ j ∧ j ≤ s.c.L.length) : ((s.bF.cut i j).length : Int) = j - i := by
  unfold aZ.cut
  rw [dO]
  simp; omega
theorem KW.fwd (h : KW false A k s) (hA : A.length ≤ 1024) : (s.pI = 0 ∧ KW false A (k + 1) s.iK) ∨ (s.pI ≠ 0 ∧ s.iK.c.L = []) := by
  obtain ⟨a, b, h, hg, hk, ha, hz⟩ := h
  simp only [Bool.false_eq_true, if_false] at ha
  subst ha
  have hi := gy s
  have hlen := h.len
  have hok := h.ok
  have hpt := h.pt
  unfold aZ.pI aZ.iK aZ.Nl aZ.J4
  rw [zX h.dN hg, if_neg (by decide), if_neg (by decide), Ko, dO, h.pt]
  have hb := Rj (l := s.c.L) (x := 0) (by omega)
  unfold Ll
  simp only [Int.natCast_zero] at hb
  by_cases hL : s.c.L = []
  · right
    rw [hL] at hb
    simp only [List.length_nil] at hb
    have e : ((pV s.c.L 0 : Nat) : Int) ≤ 0 := by rw [hL]; omega
    unfold aZ.QW aZ.Pq
    rw [if_pos e, if_pos e]
    refine ⟨?_, (PS h.dN).trans hL⟩
    unfold aZ.pY; rw [if_pos hi]; decide
  · left
    have hl : 0 < s.c.L.length := List.length_pos_iff.2 hL
    have hm := hb.2 (by simpa using hl)
    generalize pV s.c.L 0 = m at hb hm
    have hm1 : 0 < m := by simpa using hm
    have e : ¬ ((m : Nat) : Int) ≤ 0 := by omega
    unfold aZ.QW aZ.Pq
    rw [if_neg e, if_neg e]
    have hq := h.fwd hA (k := m) (by omega)
    rw [dO, h.pt, Int.zero_add] at hq
    have hkk := (xG h hA (i := 0) (j := m) (back := false) rfl (by rw [LK (by omega)]; omega)).1
    have hE := PU hi (i := 0) (j := m) (back := false) (by rw [dO]; omega) (by rw [dO]; omega) hkk
    have hc := J8 (s := s.bF) hi (i := 0) (j := m) (back := false) (by rw [dO]; omega) (by rw [dO]; omega) hkk (by rw [dO, h.pt]; omega)
    rw [hE]
    refine ⟨by unfold aZ.pY; rw [if_pos hc.2.2.2.2.1], 0, b + m, hq, xJ _ hc.2.2.2.2.1 ((LJ _ _ _ _).trans (uy h.dN)), by omega, by simp, fun hA0 => ?_⟩
    have h9 : A.length = 0 := by rw [hA0]; rfl
    omega
theorem KW.back (h : KW true A k s) (hA : A.length ≤ 1024) : (s.kV = 0 ∧ KW true A (k + 1) s.kW) ∨ (s.kV ≠ 0 ∧ s.kW.c.L = []) := by
  obtain ⟨a, b, h, hg, hk, hb0, hz⟩ := h
  simp only [if_true] at hb0
  subst hb0
  have hi := gy s
  have hlen := h.len
  have hok := h.ok
  have hpt := h.pt
  obtain ⟨x, hx⟩ : ∃ x : Nat, a = x := ⟨a.toNat, by omega⟩
  subst hx
  unfold aZ.kV aZ.kW aZ.Nl aZ.J4
  rw [zX h.dN hg, if_pos (by decide), if_pos (by decide), Kq, dO, h.pt]
  have hb := Nz (l := s.c.L) (x := x) (by omega)
  unfold AB
  by_cases hL : x = 0
  · right
    have e : ((x : Nat) : Int) ≤ ((lu s.c.L (x : Int) : Nat) : Int) := by omega
    unfold aZ.QW aZ.Pq
    rw [if_pos e, if_pos e]
    refine ⟨?_, (PS h.dN).trans (List.length_eq_zero_iff.1 (by omega))⟩
    unfold aZ.pY; rw [if_pos hi]; decide
  · left
    have hm := hb.2 (by omega)
    generalize lu s.c.L (x : Int) = m at hb hm
    have e : ¬ ((x : Nat) : Int) ≤ ((m : Nat) : Int) := by omega
    unfold aZ.QW aZ.Pq
    rw [if_neg e, if_neg e]
    have hq := h.back hA (k := x - m) (by omega)
    rw [dO, h.pt, show (x : Int) - (x - m) = m from by omega] at hq
    have hkk := (xG h hA (i := m) (j := x) (back := true) rfl (by rw [LK (by omega)]; omega)).1
    have hE := PU hi (i := m) (j := x) (back := true) (by rw [dO]; omega) (by rw [dO]; omega) hkk
    have hc := J8 (s := s.bF) hi (i := m) (j := x) (back := true) (by rw [dO]; omega) (by rw [dO]; omega) hkk (by rw [dO, h.pt]; omega)
    rw [hE]
    refine ⟨by unfold aZ.pY; rw [if_pos hc.2.2.2.2.1], m, A.length, hq, xJ _ hc.2.2.2.2.1 ((LJ _ _ _ _).trans (uy h.dN)), by omega, by simp, fun hA0 => ?_⟩
    have h9 : A.length = 0 := by rw [hA0]; rfl
    omega
theorem PV (h : s.dN = true) (l : List Int) : (s.xu l).dN = true := (Gs h s.c.pt s.c.pt l).2.2.2.2.2.1
theorem NC (h : s.dN = true) : s.oP.dN = true := by
  unfold aZ.oP
  split
  · exact PV h _
  · exact h
theorem KW.WO {back : Bool} (h : KW back [] k s) : s.Gu = 6 := by
  obtain ⟨a, b, h, -, h2, -, h3⟩ := h
  have hi := gy s
  have hy : s.bF.uI = 6 := by unfold aZ.uI; rw [if_pos hi, dO, h3 rfl]; rfl
  unfold aZ.Gu aZ.pY
  rw [if_pos (NC (gy s)), hy]
theorem KW.LM {back : Bool} (h : KW back A k s) (hz : (A.length : Int) = 0) : s.Gu = 6 := by
  have e : A = [] := List.length_eq_zero_iff.1 (by omega)
  subst e
  exact h.WO
theorem PW (s : aZ) (i j : Int) (b : Bool) (h : s.dN = true) : (s.nH i j b).dN = true := by
  have hc : (s.jP i j b).dN = true := by unfold aZ.jP; split <;> exact h
  unfold aZ.nH
  split
  · exact (Gs hc i j []).2.2.2.2.2.1
  · exact h
theorem Ro (s : aZ) (i j : Int) (b : Bool) (h : s.dN = true) : (s.Pq i j b).dN = true := by unfold aZ.Pq; split; exact h; exact PW _ _ _ _ h
theorem LP (s : aZ) (n : Int) (h : s.dN = true) : (s.J4 n).dN = true := by unfold aZ.J4; split <;> exact Ro _ _ _ _ h
theorem D8 (s : aZ) : s.iK.dN = false := vP (LP _ _ (gy s)) _
theorem yP (s : aZ) : s.kW.dN = false := vP (LP _ _ (gy s)) _
end
section
variable {L : List Int}
theorem start_eq (hA : L.length ≤ 1024) : uo [] L = (aZ.new (EN []) (EO []) 4096).start (EN []) (EO []) 4096 L := by
  unfold uo aZ.Gm; rw [if_pos (by rw [xH, if_neg (by omega)])]
theorem zy {s : aZ} {x a : Int} (hi0 : s.dN = false) (hg : s.given = false) (hL : s.c.L = L) (hE : s.c.E = []) (hx : RJ L.length a = 0) (h : 0 ≤ a ∧ a ≤ L.length) : yN ((s.bF.kP a).iC 0) L a a ∧ ((s.bF.kP a).iC 0).given = false ∧ ((s.bF.kP a).iC 0).c.E = [] := by
  have hi := gy s
  have hm : s.bF.kP a = s.bF.iD L a s.bF.c.mark := by
    unfold aZ.kP
    rw [if_pos hi, dO, hL]
    unfold Qs; rw [if_pos h]
  rw [hm]
  have hi2 : (s.bF.iD L a s.bF.c.mark).dN = true := hi
  have hE2 : ((s.bF.iD L a s.bF.c.mark).iC 0).c.E = [] := (PN _ hi2).trans (by show s.bF.c.E = []; rw [dO]; exact hE)
  refine ⟨⟨vO _ hi2, by omega, (Gq _ hi2).trans (by show L = _; rw [List.take_append_drop]), AL _ hi2, .inl ⟨hE2, rfl⟩⟩, xJ _ hi2 (uy hi0), hE2⟩
theorem EU {n : Nat} {a : Int} (h : 0 ≤ a ∧ a ≤ n) : RJ n a = 0 := by unfold RJ; rw [if_pos h]
theorem PX (hA : L.length ≤ 1024) : KW false L 0 (qU [] L 0) := by
  have e : (uo [] L).bF.qc 0 = 0 := by
    unfold aZ.qc; rw [if_pos (gy _), dO, start_eq hA]; exact EU (by show (0:Int) ≤ 0 ∧ (0 : Int) ≤ ((L.length : Nat) : Int); omega)
  have h := zy (s := uo [] L) (L := L) (x := 0) (a := 0) (by rw [start_eq hA]; rfl) (by rw [start_eq hA]; rfl) (by rw [start_eq hA]; rfl) (by rw [start_eq hA]; rfl) (EU (by omega)) (by omega)
  unfold qU aZ.LD
  rw [e]
  exact ⟨0, 0, h.1, h.2.1, by omega, by simp, fun _ => h.2.2⟩
theorem LQ (hA : L.length ≤ 1024) : (qU [] L 0).IZ = 0 ∧ KW true L 0 (qU [] L 0).I4 := by
  obtain ⟨a, b, h, hg, h2, h3, h4⟩ := PX hA
  simp only [Bool.false_eq_true, if_false] at h3
  subst h3
  have e0 : (uo [] L).bF.qc 0 = 0 := by
    unfold aZ.qc; rw [if_pos (gy _), dO, start_eq hA]; exact EU (by show (0:Int) ≤ 0 ∧ (0 : Int) ≤ ((L.length : Nat) : Int); omega)
  have h0 := zy (s := uo [] L) (L := L) (x := 0) (a := 0) (by rw [start_eq hA]; rfl) (by rw [start_eq hA]; rfl) (by rw [start_eq hA]; rfl) (by rw [start_eq hA]; rfl) (EU (by omega)) (by omega)
  have hs : qU [] L 0 = (((uo [] L).bF.kP 0).iC 0) := by unfold qU aZ.LD; rw [e0]
  have hl : (qU [] L 0).c.L = L := by rw [hs, h0.1.L]; simp
  have e : (qU [] L 0).bF.qc (qU [] L 0).bF.c.L.length = 0 := by
    unfold aZ.qc; rw [if_pos (gy _)]; exact EU (by omega)
  have h5 := zy (s := qU [] L 0) (L := L) (x := 0) (a := L.length) h.dN hg hl (by rw [hs]; exact h0.2.2) (EU (by omega)) (by omega)
  unfold aZ.IZ aZ.I4
  rw [e, dO, hl]
  refine ⟨?_, L.length, L.length, h5.1, h5.2.1, by omega, by simp, fun _ => h5.2.2⟩
  unfold aZ.pY
  rw [if_pos (by unfold aZ.kP; rw [if_pos (gy _)]; exact gy _)]
end
end Go.Proofs.YtgndbccogcofjaaGreatDoor
end
section
namespace Go.Proofs.YtgndbccogcofjaaGreatDoor
open Go.RowKit
open _root_.Go.Proofs.Tryz
theorem Ak {w : World} {lv : Value} {line : List Int} (hT : tH w) (g : jR w .i32 lv line) (hl : line.length ≤ 1024) :
  fA prog 7 #[lv, .bool false] w fun v w' => v = .bool true ∧ Below w.heap.size w w' := by
 obtain ⟨F, H⟩ : ∃ F, aB w w F := ⟨_, aB.start w⟩
 have hv : gJ w F .i32 lv line := gJ.xX g F
 refine fU func7 ntmps7 ?_
 dsimp only [aY, Nat.reduceAdd]
 refine ay (ah (aU rfl (aA (aj (ay (ah (aO rfl (aW (eH (zl := [.slice none 0 0, .slice none 0 0, .int .i64 0]) (pl := [(0, 1), (1, 1), (2, 1)]) [_, _, _] underlying49 zeroValue49 rfl (fun w => by kernel_rfl) rfl (.zero (zs := [.slice none 0 0]) rfl (.one (Rd.one (hv _ (H))) (.zero (zs := [.int .i64 0]) rfl .nil))) rfl) (bZ rfl func20 (uq (l := []) (ln := line) (pt := 0) H (fun W _ => Gv W 2) (fun W HW => hv _ (HW)) (by decide) (by rfl) hl) ?_)))))))))
 rintro _ w1 ⟨e1, rfl, H1⟩
 refine aU rfl (aA (aj (ay (ay (ah (bZ rfl func10 (uw H1 hT) ?_))))))
 rintro _ w2 ⟨rfl, H2⟩
 refine aW (jS rfl) (gB rfl (fun h => by exfalso; (try simp only [aH] at h); simp at h) (fun h1 => ?_))
 (try simp only [aH] at h1)
 refine bf (aO rfl (bf (aW (eu underlying26 rfl rfl) (bf (aO rfl (bf (aW (gY (hv _ (H2.right)) underlying22 rfl) (bf (aW (dn rfl rfl) (bf (aW (wX underlying4 rfl rfl) (fG rfl rfl (aA (aj (aN rfl (fun h => by exfalso; (try simp only [aH] at h); simp at h; omega) (fun h2 => ?_))))))))))))))))
 (try simp only [aH] at h2)
 refine aP (aj (ay (ay (ah (aO rfl (aW (eu underlying26 rfl rfl) (aA (aj (aN rfl (fun h => by exfalso; (try simp only [aH] at h); simp at h) (fun h3 => ?_))))))))))
 (try simp only [aH] at h3)
 refine aP (aj (ay (ah (aU rfl (aA (aj (ay (ay (ah (aO rfl (aA (aj (oK (aP (aj (ay (ay (ah (aO rfl (aW (gY (hv _ (H2.right)) underlying22 rfl) (aO rfl (aA (aj (bC ?_))))))))))))))))))))))))
 refine ig [(0, _), (5, _), (6, _), (28, _)] (fun (k : Nat) => [(29, .int .i64 (k : Int))]) (fun (k : Nat) W => k ≤ line.length ∧ ∃ s, KW false line k s ∧ aB w W (dw e1 s • F)) (fun (k : Nat) => line.length - k) (0) (Sub.cons rfl (Sub.cons rfl (Sub.cons rfl (Sub.cons rfl (Sub.nil _))))) (Sub.cons rfl (Sub.nil _)) ⟨by omega, _, PX hl, H2⟩ ?_
 rintro k w3 ⟨hk, s, hs, HL⟩
 dsimp only [List.cons_append, List.nil_append]
 refine ay (ah (aW (fE rfl rfl) (aA (aj (ay (aN rfl (fun h4 => ?_) (fun h4 => ?_)))))))
 ·(try simp only [aH] at h4)
  have hkl := h4
  refine aP (aj (ay (bC (ay (ah (aO rfl (aO rfl (ji (jr (k := .i32) (l := [100]) HL underlying22 sizeOf21 zeroValue21 rfl rfl rfl (by decide)) ?_))))))))
  rintro l4 w4 H4
  refine bZ rfl func11 (kM (s := s) (keys := [100]) (name := wz) H4.f2 hs.dN (fun W HW => (HW).aT) rH vS (Du hT)) ?_
  rintro _ w5 ⟨rfl, H5⟩
  have hst := hs.fwd hl
  have hin2 := D8 s
  refine aW (dK rfl rfl) (aA (aj (aN rfl (fun h5 => ?_) (fun h5 => ?_))))
  ·(try simp only [aH] at h5)
   have hbr : s.pI ≠ 0 := h5
   have hL0 : s.iK.c.L = [] := (hst.resolve_left (fun c => hbr c.1)).2
   refine eU ?_
   refine nU (by decide) ?_
   refine aX (aX (bV (aj (ay (ay (ah (aO rfl (bZ rfl func21 (jo H5) ?_))))))))
   rintro _ w6 ⟨u6, rfl, H6⟩
   refine aW (kD 0 underlying53 rfl rfl (gI underlying22 rfl) rfl rfl) (aW (gY ((H6).aT) underlying22 rfl) (aW (dK rfl rfl) (aA (aj (aN rfl (fun h => by exfalso; (try simp only [aH] at h); exact h (by first | (have h9 := congrArg List.length hL0; exact Int.natCast_eq_zero.2 h9) | (have h9 := congrArg List.length (hs.all (by omega)); exact Int.natCast_eq_zero.2 h9))) (fun h6 => ?_))))))
   (try simp only [aH] at h6)
   refine aP (aj (ay (ay (ah (aO rfl (aW (gY (hv _ (H6.right.right.right)) underlying22 rfl) (aW (eX rfl rfl) (aA (aj (aN rfl (fun h7 => ?_) (fun h7 => ?_)))))))))))
   ·(try simp only [aH] at h7)
    have hz := h7
    refine ay (ah (aO rfl (ji (jr (k := .i32) (l := [121]) H6 underlying22 sizeOf21 zeroValue21 rfl rfl rfl (by decide)) ?_)))
    rintro l7 w7 H7
    refine bZ rfl func11 (kM (keys := [121]) (name := Dq) H7.f3 (by first | exact hin2 | exact hs.dN) (fun W HW => (HW).aT) pG qx Dw) ?_
    rintro _ w8 ⟨rfl, H8⟩
    refine aW (lD (eX rfl rfl) (by first | exact absurd hz (by omega) | exact beq_iff_eq.2 (hs.LM hz))) ?_
    refine aU rfl (aA (aj (aJ (aK (aI (.inl rfl) results7 rfl ?_)))))
    exact ⟨rfl, H8.base⟩
   ·(try simp only [aH] at h7)
    refine aP (aj (ay (ah (aU rfl (aA (aj (aJ (aI (.inl rfl) results7 rfl ?_))))))))
    exact ⟨rfl, H6.base⟩
  ·(try simp only [aH] at h5)
   have hok : s.pI = 0 := h5
   have hs1 := (hst.resolve_right (fun c => c.1 hok)).2
   refine aP (aS (aj (ah (aW (fP rfl rfl (by omega)) (aO rfl (aA ?_))))))
   refine fD (k + 1) ?_ ?_ ?_ ?_
   ·exact (Sub.cons rfl (Sub.nil _))
   ·exact (Sub.cons rfl (Sub.cons rfl (Sub.cons rfl (Sub.cons rfl (Sub.nil _)))))
   ·(try dsimp only)
    first | done | exact ⟨by omega, _, hs1, H5.f2.right⟩
   ·(try dsimp only); omega
 ·(try simp only [aH] at h4)
  refine eU (aX (aX (bV (aj (ay (ay (ah (aO rfl (bZ rfl func21 (jo HL) ?_)))))))))
  rintro _ w9 ⟨u9, rfl, H9⟩
  refine aW (kD 0 underlying53 rfl rfl (gI underlying22 rfl) rfl rfl) (aW (gY ((H9).aT) underlying22 rfl) (aW (dK rfl rfl) (aA (aj (aN rfl (fun h => by exfalso; (try simp only [aH] at h); exact h (by first | (have h9 := congrArg List.length hL0; exact Int.natCast_eq_zero.2 h9) | (have h9 := congrArg List.length (hs.all (by omega)); exact Int.natCast_eq_zero.2 h9))) (fun h8 => ?_))))))
  (try simp only [aH] at h8)
  refine aP (aj (ay (ay (ah (aO rfl (aW (gY (hv _ (H9.right.right)) underlying22 rfl) (aW (eX rfl rfl) (aA (aj (aN rfl (fun h9 => ?_) (fun h9 => ?_)))))))))))
  ·(try simp only [aH] at h9)
   have hz := h9
   refine ay (ah (aO rfl (ji (jr (k := .i32) (l := [121]) H9 underlying22 sizeOf21 zeroValue21 rfl rfl rfl (by decide)) ?_)))
   rintro l10 w10 mJ
   refine bZ rfl func11 (kM (keys := [121]) (name := Dq) mJ.f3 (by first | exact hin2 | exact hs.dN) (fun W HW => (HW).aT) pG qx Dw) ?_
   rintro _ He ⟨rfl, uO⟩
   refine aW (lD (eX rfl rfl) (by first | exact absurd hz (by omega) | exact beq_iff_eq.2 (hs.LM hz))) ?_
   refine aU rfl (aA (aj (aJ (aK (aI (.inl rfl) results7 rfl ?_)))))
   exact ⟨rfl, uO.base⟩
  ·(try simp only [aH] at h9)
   refine aP (aj (ay (ah (aU rfl (aA (aj (aJ (aI (.inl rfl) results7 rfl ?_))))))))
   exact ⟨rfl, H9.base⟩
theorem zA {w : World} {lv : Value} {line : List Int} (hT : tH w) (g : jR w .i32 lv line) (hl : line.length ≤ 1024) :
  fA prog 7 #[lv, .bool true] w fun v w' => v = .bool true ∧ Below w.heap.size w w' := by
 obtain ⟨F, H⟩ : ∃ F, aB w w F := ⟨_, aB.start w⟩
 have hv : gJ w F .i32 lv line := gJ.xX g F
 refine fU func7 ntmps7 ?_
 dsimp only [aY, Nat.reduceAdd]
 refine ay (ah (aU rfl (aA (aj (ay (ah (aO rfl (aW (eH (zl := [.slice none 0 0, .slice none 0 0, .int .i64 0]) (pl := [(0, 1), (1, 1), (2, 1)]) [_, _, _] underlying49 zeroValue49 rfl (fun w => by kernel_rfl) rfl (.zero (zs := [.slice none 0 0]) rfl (.one (Rd.one (hv _ (H))) (.zero (zs := [.int .i64 0]) rfl .nil))) rfl) (bZ rfl func20 (uq (l := []) (ln := line) (pt := 0) H (fun W _ => Gv W 2) (fun W HW => hv _ (HW)) (by decide) (by rfl) hl) ?_)))))))))
 rintro _ w1 ⟨e1, rfl, H1⟩
 refine aU rfl (aA (aj (ay (ay (ah (bZ rfl func10 (uw H1 hT) ?_))))))
 rintro _ w2 ⟨rfl, H2⟩
 refine aW (jS rfl) (gB rfl (fun h => by exfalso; (try simp only [aH] at h); simp at h) (fun h1 => ?_))
 (try simp only [aH] at h1)
 refine bf (aO rfl (bf (aW (eu underlying26 rfl rfl) (bf (aO rfl (bf (aW (gY (hv _ (H2.right)) underlying22 rfl) (bf (aW (dn rfl rfl) (bf (aW (wX underlying4 rfl rfl) (fG rfl rfl (aA (aj (aN rfl (fun h => by exfalso; (try simp only [aH] at h); simp at h; omega) (fun h2 => ?_))))))))))))))))
 (try simp only [aH] at h2)
 refine aP (aj (ay (ay (ah (aO rfl (aW (eu underlying26 rfl rfl) (aA (aj (aN rfl (fun h => by exfalso; (try simp only [aH] at h); simp at h) (fun h3 => ?_))))))))))
 (try simp only [aH] at h3)
 refine aP (aj (ay (ah (aU rfl (aA (aj (ay (ay (ah (aO rfl (aA (aj (wB (ay (ah (aU rfl (aA (aj (ay (ah (aO rfl (ji (jr (k := .i32) (l := [101]) H2 underlying22 sizeOf21 zeroValue21 rfl rfl rfl (by decide)) ?_))))))))))))))))))))))
 rintro l3 w3 H3
 refine bZ rfl func11 (kM (s := qU [] line 0) (keys := [101]) (name := Dt) H3.f2 (Nw _ _ _) (fun W HW => (HW).aT) yO D6 Ny) ?_
 rintro _ w4 ⟨rfl, H4⟩
 refine aW (dK rfl rfl) (aA (aj (aN rfl (fun h => by exfalso; (try simp only [aH] at h); exact h (LQ hl).1) (fun h4 => ?_))))
 (try simp only [aH] at h4)
 refine aP (aj (ay (ay (ah (aO rfl (aW (gY (hv _ (H4.right.right)) underlying22 rfl) (aO rfl (aA (aj (bC ?_))))))))))
 refine ig [(0, _), (5, _), (6, _), (28, _)] (fun (k : Nat) => [(29, .int .i64 (k : Int))]) (fun (k : Nat) W => k ≤ line.length ∧ ∃ s, KW true line k s ∧ aB w W (dw e1 s • F)) (fun (k : Nat) => line.length - k) (0) (Sub.cons rfl (Sub.cons rfl (Sub.cons rfl (Sub.cons rfl (Sub.nil _))))) (Sub.cons rfl (Sub.nil _)) ⟨by omega, _, (LQ hl).2, H4.f2.right⟩ ?_
 rintro k w5 ⟨hk, s, hs, HL⟩
 dsimp only [List.cons_append, List.nil_append]
 refine ay (ah (aW (fE rfl rfl) (aA (aj (ay (aN rfl (fun h5 => ?_) (fun h5 => ?_)))))))
 ·(try simp only [aH] at h5)
  have hkl := h5
  refine aP (aj (ay (bC (ay (ah (aO rfl (aO rfl (ji (jr (k := .i32) (l := [100]) HL underlying22 sizeOf21 zeroValue21 rfl rfl rfl (by decide)) ?_))))))))
  rintro l6 w6 H6
  refine bZ rfl func11 (kM (s := s) (keys := [100]) (name := rG) H6.f2 hs.dN (fun W HW => (HW).aT) qV xI (Dv hT)) ?_
  rintro _ w7 ⟨rfl, H7⟩
  have hst := hs.back hl
  have hin2 := yP s
  refine aW (dK rfl rfl) (aA (aj (aN rfl (fun h6 => ?_) (fun h6 => ?_))))
  ·(try simp only [aH] at h6)
   have hbr : s.kV ≠ 0 := h6
   have hL0 : s.kW.c.L = [] := (hst.resolve_left (fun c => hbr c.1)).2
   refine eU ?_
   refine nU (by decide) ?_
   refine aX (aX (bV (aj (ay (ay (ah (aO rfl (bZ rfl func21 (jo H7) ?_))))))))
   rintro _ w8 ⟨u8, rfl, H8⟩
   refine aW (kD 0 underlying53 rfl rfl (gI underlying22 rfl) rfl rfl) (aW (gY ((H8).aT) underlying22 rfl) (aW (dK rfl rfl) (aA (aj (aN rfl (fun h => by exfalso; (try simp only [aH] at h); exact h (by first | (have h9 := congrArg List.length hL0; exact Int.natCast_eq_zero.2 h9) | (have h9 := congrArg List.length (hs.all (by omega)); exact Int.natCast_eq_zero.2 h9))) (fun h7 => ?_))))))
   (try simp only [aH] at h7)
   refine aP (aj (ay (ay (ah (aO rfl (aW (gY (hv _ (H8.right.right.right)) underlying22 rfl) (aW (eX rfl rfl) (aA (aj (aN rfl (fun h8 => ?_) (fun h8 => ?_)))))))))))
   ·(try simp only [aH] at h8)
    have hz := h8
    refine ay (ah (aO rfl (ji (jr (k := .i32) (l := [121]) H8 underlying22 sizeOf21 zeroValue21 rfl rfl rfl (by decide)) ?_)))
    rintro l9 w9 H9
    refine bZ rfl func11 (kM (keys := [121]) (name := Dq) H9.f3 (by first | exact hin2 | exact hs.dN) (fun W HW => (HW).aT) pG qx Dw) ?_
    rintro _ w10 ⟨rfl, mJ⟩
    refine aW (lD (eX rfl rfl) (by first | exact absurd hz (by omega) | exact beq_iff_eq.2 (hs.LM hz))) ?_
    refine aU rfl (aA (aj (aJ (aK (aI (.inl rfl) results7 rfl ?_)))))
    exact ⟨rfl, mJ.base⟩
   ·(try simp only [aH] at h8)
    refine aP (aj (ay (ah (aU rfl (aA (aj (aJ (aI (.inl rfl) results7 rfl ?_))))))))
    exact ⟨rfl, H8.base⟩
  ·(try simp only [aH] at h6)
   have hok : s.kV = 0 := h6
   have hs1 := (hst.resolve_right (fun c => c.1 hok)).2
   refine aP (aS (aj (ah (aW (fP rfl rfl (by omega)) (aO rfl (aA ?_))))))
   refine fD (k + 1) ?_ ?_ ?_ ?_
   ·exact (Sub.cons rfl (Sub.nil _))
   ·exact (Sub.cons rfl (Sub.cons rfl (Sub.cons rfl (Sub.cons rfl (Sub.nil _)))))
   ·(try dsimp only)
    first | done | exact ⟨by omega, _, hs1, H7.f2.right⟩
   ·(try dsimp only); omega
 ·(try simp only [aH] at h5)
  refine eU (aX (aX (bV (aj (ay (ay (ah (aO rfl (bZ rfl func21 (jo HL) ?_)))))))))
  rintro _ He ⟨u11, rfl, uO⟩
  refine aW (kD 0 underlying53 rfl rfl (gI underlying22 rfl) rfl rfl) (aW (gY ((uO).aT) underlying22 rfl) (aW (dK rfl rfl) (aA (aj (aN rfl (fun h => by exfalso; (try simp only [aH] at h); exact h (by first | (have h9 := congrArg List.length hL0; exact Int.natCast_eq_zero.2 h9) | (have h9 := congrArg List.length (hs.all (by omega)); exact Int.natCast_eq_zero.2 h9))) (fun h9 => ?_))))))
  (try simp only [aH] at h9)
  refine aP (aj (ay (ay (ah (aO rfl (aW (gY (hv _ (uO.right.right)) underlying22 rfl) (aW (eX rfl rfl) (aA (aj (aN rfl (fun h10 => ?_) (fun h10 => ?_)))))))))))
  ·(try simp only [aH] at h10)
   have hz := h10
   refine ay (ah (aO rfl (ji (jr (k := .i32) (l := [121]) uO underlying22 sizeOf21 zeroValue21 rfl rfl rfl (by decide)) ?_)))
   rintro l12 w12 wE
   refine bZ rfl func11 (kM (keys := [121]) (name := Dq) wE.f3 (by first | exact hin2 | exact hs.dN) (fun W HW => (HW).aT) pG qx Dw) ?_
   rintro _ ND ⟨rfl, vY⟩
   refine aW (lD (eX rfl rfl) (by first | exact absurd hz (by omega) | exact beq_iff_eq.2 (hs.LM hz))) ?_
   refine aU rfl (aA (aj (aJ (aK (aI (.inl rfl) results7 rfl ?_)))))
   exact ⟨rfl, vY.base⟩
  ·(try simp only [aH] at h10)
   refine aP (aj (ay (ah (aU rfl (aA (aj (aJ (aI (.inl rfl) results7 rfl ?_))))))))
   exact ⟨rfl, uO.base⟩
theorem zB {w : World} {lv : Value} {line : List Int} {back : Bool} (hT : tH w) (g : jR w .i32 lv line) (hl : 1024 < line.length) :
  fA prog 7 #[lv, .bool back] w fun v w' => v = .bool true ∧ Below w.heap.size w w' := by
 obtain ⟨F, H⟩ : ∃ F, aB w w F := ⟨_, aB.start w⟩
 have hv : gJ w F .i32 lv line := gJ.xX g F
 refine fU func7 ntmps7 ?_
 dsimp only [aY, Nat.reduceAdd]
 refine ay (ah (aU rfl (aA (aj (ay (ah (aO rfl (aW (eH (zl := [.slice none 0 0, .slice none 0 0, .int .i64 0]) (pl := [(0, 1), (1, 1), (2, 1)]) [_, _, _] underlying49 zeroValue49 rfl (fun w => by kernel_rfl) rfl (.zero (zs := [.slice none 0 0]) rfl (.one (Rd.one (hv _ (H))) (.zero (zs := [.int .i64 0]) rfl .nil))) rfl) (bZ rfl func20 (Gt (l := []) (ln := line) (pt := 0) H (fun W _ => Gv W 2) hv (by decide) (by rfl) hl) ?_)))))))))
 rintro _ w1 ⟨rfl, H1⟩
 refine aU rfl (aA (aj (ay (ay (ah (bZ rfl func10 (uw H1 hT) ?_))))))
 rintro _ w2 ⟨rfl, H2⟩
 refine aW (jS rfl) (gB rfl (fun h => by exfalso; (try simp only [aH] at h); simp at h) (fun h1 => ?_))
 (try simp only [aH] at h1)
 refine bf (aO rfl (bf (aW (eu underlying26 rfl rfl) (bf (aO rfl (bf (aW (gY (hv _ (H2)) underlying22 rfl) (bf (aW (dn rfl rfl) (bf (aW (wX underlying4 rfl rfl) (fG rfl rfl (aA (aj (aN rfl (fun h => by exfalso; (try simp only [aH] at h); simp at h; omega) (fun h2 => ?_))))))))))))))))
 (try simp only [aH] at h2)
 refine aP (aj (ay (ay (ah (aO rfl (aW (eu underlying26 rfl rfl) (aA (aj (aN rfl (fun h3 => ?_) (fun h => by exfalso; (try simp only [aH] at h); simp at h))))))))))
 (try simp only [aH] at h3)
 refine ay (ah (aU rfl (aA (aj (aJ (aK (aI (.inl rfl) results7 rfl ?_)))))))
 exact ⟨rfl, H2.base⟩
theorem I7 {w : World} {lv : Value} {line : List Int} {back : Bool} (hT : tH w) (g : jR w .i32 lv line) :
    fA prog 7 #[lv, .bool back] w fun v w' => v = .bool true ∧ Below w.heap.size w w' := by
  by_cases hl : line.length ≤ 1024
  · cases back
    · exact Ak hT g hl
    · exact zA hT g hl
  · exact zB hT g (by omega)
end Go.Proofs.YtgndbccogcofjaaGreatDoor
end
section
set_option maxRecDepth 100000
namespace Go.Proofs.YtgndbccogcofjaaGreatDoor
open Go.ChangeShapes Go.WideShapes Go.ChangeAt Go.RowKit
set_option maxRecDepth 100000 in
theorem vT (os : Os) (started : os.Started) (H : Type) (enc : TypeId × Value → H) :
    ReturnsInHanded {} Tryz.checked os 7 .any (fun w args => (Rows.emacsKillsAllSpec.pre enc Tryz.prog Tryz.f7 Rows.emacsKillsAllRow.domain false w args ∧ laidMetH Tryz.prog Ej w) ∧ sizedMet enc Tryz.prog Tryz.f7 (OpenSpec.ofChange Rows.emacsKillsAllSpec) false w args) (Rows.emacsKillsAllSpec.post enc Tryz.prog Tryz.f7 false true false false) := by
  refine DF (C := Tryz.checked) (tb := 4) _ own laid started (by kernel_rfl) Tryz.func7 (congrArg Array.toList Tryz.params7) rfl Tryz.underlying4 rfl (by kernel_rfl) (fun ds hd => ?_)
    (ChangeSpec.witness_shaped (enc := enc) (C := Tryz.checked) (os := os) (X := fun w _ => laidMetH Tryz.prog Ej w) false (World.laidAll Tryz.prog os Ej) #[.slice none 0 0, .bool false] 8 (World.laidAll_os _ _ _) (World.shaped_of_ZipB (by kernel_rfl) (by kernel_rfl)) (by kernel_rfl) (by kernel_rfl) (by kernel_rfl) (N9 os _)) ?_
  · obtain ⟨a0, a1, rfl⟩ := Qi hd
    rfl
  intro W args hL hin
  have hT := Qo hL
  obtain ⟨v1, v2, rfl, ⟨⟨_, o1⟩, i1⟩, ⟨⟨_, o2⟩, i2⟩⟩ := hin.two
  obtain ⟨a1, n1, c1, rfl⟩ := okWide_slice Tryz.underlying22 o1
  obtain ⟨bk, rfl⟩ := okWide_bool Tryz.underlying4 o2
  obtain ⟨v, l, e1, g1, bl, -⟩ := i1.ints Tryz.underlying22 Tryz.underlying21 (by kernel_rfl)
  obtain rfl := List.singleton_inj.1 e1
  exact I7 hT.1 g1
theorem vU : Rows.EmacsKillsAllSaid :=
  OpenClaim.holds_of_wide 7 Tryz.f7 rfl rfl rfl rfl rfl rfl rfl ⟨rfl, rfl, rfl, rfl, rfl⟩ rfl rfl rfl rfl rfl (by kernel_rfl) Tryz.func7 (by kernel_rfl)
    (of_decide_eq_true (by kernel_rfl)) (by unfold Func.isWrapper; first | (rw [if_pos (by decide +kernel)]; kernel_rfl) | (rw [if_neg (by decide +kernel)]; exact ⟨rfl, rfl⟩))
    (fun os started H enc _ => vT os started H enc)
theorem emacsKillsAll_card : Rows.EmacsKillsAllCardSaid :=
  Claim7.holds_tied_plain_at .later [] [.data, .widerDeep, .widerDeep, .pinned] true (true, "3a649fd05a10beb239464f5874ead30cfcefe355d9a30c23777230efe21a8554") false
    vU (fun _ h => by cases h) (by kernel_rfl) (fun _ h => by cases h) emacsKillsAll_row_tie rfl ⟨rfl, rfl⟩ (by kernel_rfl) rfl
    (fun f fn hf hfn => by
      obtain rfl : f = 7 := Option.some.inj ((show Tryz.prog.funcNamed "lanyard/lanyardlaw18.EmacsKillsAll" = some 7 by kernel_rfl).symm.trans hf) |>.symm
      obtain rfl : fn = Tryz.f7 := (Option.some.inj (Tryz.func7.symm.trans hfn)).symm
      exact ⟨by kernel_rfl, fun j t ht => by
        rw [Tryz.params7] at ht
        have hm : t ∈ [22, 4] := by simpa using Array.mem_of_getElem? ht
        have hall : ([22, 4].all fun u => !Tryz.prog.wantsStandIn u) = true := by kernel_rfl
        exact (show Tryz.prog.wantsStandIn t = false by simpa using List.all_eq_true.1 hall t hm)⟩)
    (by kernel_rfl)
end Go.Proofs.YtgndbccogcofjaaGreatDoor
end
