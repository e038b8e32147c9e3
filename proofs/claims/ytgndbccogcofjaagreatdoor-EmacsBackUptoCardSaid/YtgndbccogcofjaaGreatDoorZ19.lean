import Derived.Test.YtgndbccogcofjaaGreatDoorZ2
import Derived.Test.YtgndbccogcofjaaGreatDoorZ18
import Derived.Test.YtgndbccogcofjaaGreatDoorZ16
import Derived.Test.YtgndbccogcofjaaGreatDoorZ15
set_option linter.unusedSimpArgs false
set_option linter.unusedVariables false
/- Texts of mine, joined, their names in short: EmBegun EmKM EmC2 EmX. -/
section
namespace Go.Proofs.YtgndbccogcofjaaGreatDoor
open Go.RowKit
open _root_.Go.Proofs.Tryz
def AL : ByteArray := ⟨#[107, 105, 108, 108, 45, 119, 111, 114, 100]⟩
def Sj : ByteArray := ⟨#[98, 97, 99, 107, 119, 97, 114, 100, 45, 107, 105, 108, 108, 45, 119, 111, 114, 100]⟩
def Rw : ByteArray := ⟨#[121, 97, 110, 107]⟩
def YX : ByteArray := ⟨#[101, 110, 100, 45, 111, 102, 45, 108, 105, 110, 101]⟩
theorem yG : wP AL = some (.func (.func 71) #[] #[]) := by kernel_rfl
theorem Gw : wP Rw = some (.func (.func 78) #[] #[]) := by kernel_rfl
theorem EC : oz AL 1 = 0 := oC (by rw [yG]; rfl) (by rintro (h | ⟨h | h | h, -⟩); omega; exact absurd h (by rw [ByteArray.toList_eq, ByteArray.toList_eq]; decide); exact absurd h (by rw [ByteArray.toList_eq, ByteArray.toList_eq]; decide); exact absurd h (by rw [ByteArray.toList_eq, ByteArray.toList_eq]; decide))
theorem MG : oz Rw 1 = 0 := oC (by rw [Gw]; rfl) (by rintro (h | ⟨h | h | h, -⟩); omega; exact absurd h (by rw [ByteArray.toList_eq, ByteArray.toList_eq]; decide); exact absurd h (by rw [ByteArray.toList_eq, ByteArray.toList_eq]; decide); exact absurd h (by rw [ByteArray.toList_eq, ByteArray.toList_eq]; decide))
section
variable {w0 : World} {keys : List Int} {s : bC}
theorem MH (hT : mD w0) : Ko w0 (.func (.func 71) #[] #[]) keys s (s.Q9 s.count) (s.Rf s.count) := fun F W c e lv kv H hk => ⟨_, [], [], _, _, rfl, func71, rfl, rfl, J7 hT F W c e lv kv H hk⟩
theorem WH : Ko w0 (.func (.func 78) #[] #[]) keys s s.yC s.sZ := fun F W c e lv kv H hk => ⟨_, [], [], _, _, rfl, func78, rfl, rfl, Ud F W c e lv kv H hk⟩
end
namespace bC
variable (s : bC)
def xK : Int := (s.aW.Rf s.aW.count).mG (s.aW.Q9 s.aW.count)
def jV : bC := (s.aW.Rf s.aW.count).iE (s.aW.Q9 s.aW.count)
def uq : Int := (s.aW.Rf (-s.aW.count)).mG (s.aW.Q9 (-s.aW.count))
def uw : bC := (s.aW.Rf (-s.aW.count)).iE (s.aW.Q9 (-s.aW.count))
def WI : Int := s.aW.sZ.mG s.aW.yC
def MI : bC := s.aW.sZ.iE s.aW.yC
def YZ : Int := (s.aW.kN s.aW.c.L.length).mG (s.aW.nK s.aW.c.L.length)
def Y0 : bC := (s.aW.kN s.aW.c.L.length).iE (s.aW.nK s.aW.c.L.length)
end bC
theorem ED (W : World) (sz : Nat) : Rd W sz (.slice none 0 0) 0 [] := ⟨by simp, none, 0, rfl, by omega, by decide, fun h => absurd h (by omega)⟩
def IQ : List Int := [102, 111, 111, 32, 98, 97, 114]
def Fz : bC := NW [] IQ 3
theorem WJ : Fz.xK = 0 := by kernel_rfl
theorem WM : Fz.jV.c.L = [102, 111, 111] := by kernel_rfl
theorem WO : Fz.jV.dU = false := by kernel_rfl
theorem WR : Fz.jV.WI = 0 := by kernel_rfl
theorem WS : Fz.jV.MI.c.L = IQ := by kernel_rfl
theorem WT : Fz.jV.MI.c.pt = 7 := by kernel_rfl
theorem WU : (utf8 Fz.jV.c.L).toList = (ByteArray.mk #[102, 111, 111]).toList := by
  rw [WM]
  exact congrArg ByteArray.toList (by rfl)
theorem WV : (utf8 Fz.jV.MI.c.L).toList = (ByteArray.mk #[102, 111, 111, 32, 98, 97, 114]).toList := by
  rw [WS]
  exact congrArg ByteArray.toList (by rfl)
section
variable {w0 w : World} {F : HP}
theorem BU {s : ByteArray} {l : List Int} (H : aB w0 w F) (hl : Conv.runesFrom s s.size 0 #[] = (l.map (Value.int .i32)).toArray) (hb : l.length ≤ 70368744177664) :
  fG prog 23 #[.string s] w fun v w' => aB w0 w' (gW 21 .i32 v l • F) := by
 refine gG func23 ntmps23 ?_
 dsimp only [bf, Nat.reduceAdd]
 refine ay (ah (aV rfl (aA (aj (ay (ah (aN rfl (iy (Jc H underlying9 underlying22 underlying21 rfl hl hb) ?_))))))))
 rintro u w1 H1
 refine aV rfl (aA (aj (aI (aH (.inl rfl) results23 rfl ?_))))
 exact H1
theorem rC (H : aB w0 w F) (hT : mD w0) : fG prog 10 #[] w fun v w' => v = .bool true ∧ aB w0 w' F := by
 refine gG func10 ntmps10 ?_
 dsimp only [bf, Nat.reduceAdd]
 refine ay (ah (aV rfl (aA (aj (ay (ah (bW rfl func23 (BU H (l := IQ) (by kernel_rfl) (by decide)) ?_)))))))
 rintro u1 w1 H1
 refine aU (fM (zl := [.slice none 0 0, .slice none 0 0, .int .i64 0]) (pl := [(0, 1), (1, 1), (2, 1)]) [_, _, _] underlying49 zeroValue49 rfl (fun w => by kernel_rfl) rfl (.zero (zs := [.slice none 0 0]) rfl (.one (Rd.one ((H1).aS)) (.one (by first | rfl | assumption) .nil))) rfl) ?_
 refine bW rfl func20 (zS (l := []) (ln := IQ) (pt := 3) H1 (fun W _ => ED W 2) (fun W HW => (HW).aS) (by decide) (by rfl) (by decide)) ?_
 rintro _ w2 ⟨e2, rfl, H2⟩
 refine aV rfl ?_
 have YV := H2.f2.right
 refine aA (aj (ay (ay (ah (aN rfl (aU (iq underlying26 rfl rfl) (eP rfl (fun h => by exfalso; (try simp only [aF] at h); simp at h) (fun h1 => ?_))))))))
 (try simp only [aF] at h1)
 refine aX (aN rfl (aX (iy (bT (k := .i32) (l := [100]) YV underlying22 sizeOf21 zeroValue21 rfl rfl rfl (by decide)) ?_)))
 rintro l4 w4 H4
 refine aX (bW rfl func11 (dh (s := Fz) (name := AL) (keys := [100]) H4.f2 rfl (fun W HW => (HW).aS) yG EC (MH hT)) ?_)
 rintro _ w5 ⟨rfl, H5⟩
 refine aX (aU (bY rfl rfl) (dL rfl rfl (eP rfl (fun h => by exfalso; (try simp only [aF] at h); exact h WJ) (fun h2 => ?_))))
 (try simp only [aF] at h2)
 refine aX (aN rfl (aX (bW rfl func21 (dN H5) ?_)))
 rintro _ w6 ⟨u6, rfl, H6⟩
 refine aX (aU (dS 0 underlying53 rfl rfl (dB underlying22 rfl) rfl rfl) (aX (aU (AZ underlying22 underlying9 underlying21 rfl ((H6).aS)) (aX (aU (Oj rfl rfl) (dL rfl rfl (aA (aj (aP rfl (fun h => by exfalso; (try simp only [aF] at h); exact h WU) (fun h3 => ?_))))))))))
 (try simp only [aF] at h3)
 refine aO (aj (ay (ah (aN rfl (iy (bT (k := .i32) (l := [121]) H6 underlying22 sizeOf21 zeroValue21 rfl rfl rfl (by decide)) ?_)))))
 rintro l7 w7 H7
 refine bW rfl func11 (dh (s := Fz.jV) (name := Rw) (keys := [121]) H7.f3 WO (fun W HW => (HW).aS) Gw MG WH) ?_
 rintro _ w8 ⟨rfl, H8⟩
 refine aU (fE rfl rfl) (eP rfl (fun h4 => ?_) (fun h => by exfalso; (try simp only [aF] at h); exact h WR))
 (try simp only [aF] at h4)
 refine aX (aN rfl (aX (bW rfl func21 (dN H8) ?_)))
 rintro _ w9 ⟨u9, rfl, H9⟩
 refine aX (aU (dS 0 underlying53 rfl rfl (dB underlying22 rfl) rfl rfl) (aX (aU (AZ underlying22 underlying9 underlying21 rfl ((H9).aS)) (aX (aU (xB rfl rfl) (fP rfl rfl (eP rfl (fun h5 => ?_) (fun h => by exfalso; (try simp only [aF] at h); exact h WV))))))))
 (try simp only [aF] at h5)
 refine aX (aN rfl (aX (bW rfl func21 (dN H9.f2) ?_)))
 rintro _ w10 ⟨u10, rfl, oZ⟩
 refine aX (aU (dS 1 underlying53 rfl rfl (dB underlying3 rfl) rfl rfl) (aX ?_))
 refine aU (xw (fE rfl rfl) (by exact beq_iff_eq.2 WT)) ?_
 refine fP rfl rfl (aV rfl (aA (aj (aI (aH (.inl rfl) results10 rfl ?_)))))
 exact ⟨rfl, oZ.right.right.right.right.right.right⟩
end
end Go.Proofs.YtgndbccogcofjaaGreatDoor
end
section
namespace Go.Proofs.YtgndbccogcofjaaGreatDoor
open Go.RowKit
theorem jW {n x : Nat} (h : x ≤ n) : jG n (x : Int) = x := by unfold jG; omega
theorem NY {g : Int → Bool} {l : List Int} {x : Nat} (h : x < l.length) (hg : g (l.getD x 0) = true) : x < lX g l x := by
  unfold lX
  rw [List.drop_eq_getElem_cons h, List.takeWhile_cons_of_pos (by rwa [List.getD_eq_getElem?_getD, List.getElem?_eq_getElem h] at hg)]
  simp
theorem NZ {g : Int → Bool} {l : List Int} {x : Nat} (h : x ≤ l.length) (h0 : 0 < x) (hg : g (l.getD (x - 1) 0) = true) : nD g l x < x := by
  obtain ⟨y, rfl⟩ : ∃ y, x = y + 1 := ⟨x - 1, by omega⟩
  have hy : y < l.length := by omega
  unfold nD
  rw [show l.take (y + 1) = l.take y ++ [l[y]] from by simp, List.reverse_append, List.reverse_singleton, List.singleton_append, List.takeWhile_cons_of_pos (by simpa [List.getD_eq_getElem?_getD, List.getElem?_eq_getElem hy] using hg)]
  simp only [List.length_cons]
  omega
theorem Cm {l : List Int} {x : Nat} (h : x ≤ l.length) : dV l x ≤ l.length ∧ (x < l.length → x < dV l x) := by
  unfold dV
  rw [jW h]
  have h1 := mY (fun r => !bg r) l h
  have h2 := mY bg l h1.2
  refine ⟨h2.2, fun hx => ?_⟩
  by_cases hl : bg (l.getD x 0) = true
  · have e : lX (fun r => !bg r) l x = x := xG (Nat.le_refl _) h (fun j a b => by omega) (.inr (by show (!bg (l.getD x 0)) = false; rw [hl]; rfl))
    rw [e]; exact NY hx hl
  · have := NY (g := fun r => !bg r) hx (by show (!bg (l.getD x 0)) = true; rw [Bool.eq_false_iff.2 hl]; rfl)
    omega
theorem AO {l : List Int} {x : Nat} (h : x ≤ l.length) : jc l x ≤ x ∧ (0 < x → jc l x < x) := by
  unfold jc
  rw [jW h]
  have h1 := zu (fun r => !bg r) l x
  have h2 := zu bg l (nD (fun r => !bg r) l x)
  refine ⟨by omega, fun hx => ?_⟩
  by_cases hl : bg (l.getD (x - 1) 0) = true
  · have e : nD (fun r => !bg r) l x = x := back_eq (Nat.le_refl _) h (fun j a b => by omega) (.inr (by show (!bg (l.getD (x - 1) 0)) = false; rw [hl]; rfl))
    rw [e]; exact NZ h hx hl
  · have := NZ (g := fun r => !bg r) h hx (by show (!bg (l.getD (x - 1) 0)) = true; rw [Bool.eq_false_iff.2 hl]; rfl)
    omega
theorem zT (g : List Int → Int → Int) (l : List Int) (x : Int) : qK g l 1 x = g l x := by
  show (if g l x = x then x else g l x) = _
  split
  · rename_i h; exact h.symm
  · rfl
theorem EF (l : List Int) (p : Int) : bV l p 1 = BA l p := by unfold bV; rw [if_pos (by decide)]; exact zT _ _ _
theorem EG (l : List Int) (p : Int) : bV l p (-1) = tu l p := by unfold bV; rw [if_neg (by decide)]; exact zT _ _ _
section
variable {s : bC} {A : List Int} {a b : Int} {k : Nat}
theorem Un (s : bC) (x : fB) : (s.mQ x).argues = s.argues := by unfold bC.mQ; split; rfl; split <;> rfl
theorem N7 (s : bC) (i j : Int) (l : List Int) : (s.iC i j l).argues = s.argues := by unfold bC.iC; split; exact Un _ _; rfl
theorem Uo (s : bC) (i j : Int) (b : Bool) : (s.lZ i j b).argues = s.argues := by unfold bC.lZ; split <;> rfl
theorem N8 (s : bC) (i j : Int) (b : Bool) : (s.qV i j b).argues = s.argues := by unfold bC.qV; split; exact (N7 _ _ _ _).trans (Uo _ _ _ _); rfl
theorem vZ (u : bC) (h : u.dU = true) (h2 : u.argues = false) : (u.iE 0).given = false := by by_cases hp : u.put = [] <;> by_cases hc : u.cls = 2 <;> simp [bC.iE, bC.jJ, bC.fK, bC.dQ, bC.uT, bC.kW, bC.jq, bC.here, gq, hp, hc, h, h2]
theorem rD (h : s.dU = false) : s.aW.argues = false := by rw [rG h]
theorem lG (h : s.dU = false) (hg : s.given = false) : s.aW.count = 1 := by rw [rG h]; unfold bC.count; rw [if_neg (by rw [show ({ s with dU := true, was := s.c, cls := 0, killed := false, lu := false, argues := false, whole := true, put := [] } : bC).given = s.given from rfl, hg]; decide)]
theorem MJ (h : s.dU = false) : (s.aW.iE 6).c.L = s.c.L := by
  unfold bC.iE; rw [if_pos (nC s), if_neg (by decide)]
  unfold bC.aW bC.uh; rw [if_neg (by rw [h]; decide)]
theorem Rx (h : s.dU = true) {i j : Int} {back : Bool} (hi : 0 ≤ i ∧ i ≤ j ∧ j ≤ s.c.L.length) (hL : s.c.L.length ≤ 1024) (hk : (s.kX i j back).1 = 0) : s.Gh i j back = 0 := by
  have hc : s.lC i j back = 0 := by
    unfold bC.lC
    rw [if_pos h, if_neg (by unfold bC.kJ; omega), hk]
  have hE : jw s.c.L i j [] = 0 := by unfold jw; rw [if_neg (by omega), if_neg (by simp; omega)]
  unfold bC.Gh
  rw [if_pos hc]
  have e : s.lZ i j back = { s.zJ (s.kX i j back).2.1 (s.kX i j back).2.2 with killed := true, cls := 1 } := by unfold bC.lZ; rw [if_pos hc]
  have ei : (s.lZ i j back).dU = true := by rw [e]; exact h
  unfold bC.jF
  rw [if_pos ei, show (s.lZ i j back).c.L = s.c.L from by rw [e]; rfl, hE]
def KW (back : Bool) (A : List Int) (k : Nat) (s : bC) : Prop := ∃ a b : Int, AA s A a b ∧ s.given = false ∧ (k : Int) ≤ b - a ∧ (if back = true then b = A.length else a = 0) ∧ (A = [] → s.c.E = [])
theorem KW.dU {back : Bool} (h : KW back A k s) : s.dU = false := let ⟨_, _, h, _⟩ := h; h.dU
theorem KW.all {back : Bool} (h : KW back A k s) (hk : A.length ≤ k) : s.c.L = [] := by
  obtain ⟨a, b, h, -, h2, -⟩ := h
  have := h.len; have := h.ok
  exact List.length_eq_zero_iff.1 (by omega)
theorem N9 {i j : Int} (hi : 0 ≤ i ∧ i ≤ j ∧ j ≤ s.c.L.length) : ((s.aW.cut i j).length : Int) = j - i := by
  unfold bC.cut
  rw [dR]
  simp; omega
theorem KW.fwd (h : KW false A k s) (hA : A.length ≤ 1024) : (s.xK = 0 ∧ KW false A (k + 1) s.jV) ∨ (s.xK ≠ 0 ∧ s.jV.c.L = []) := by
  obtain ⟨a, b, h, hg, hk, ha, hz⟩ := h
  simp only [Bool.false_eq_true, if_false] at ha
  subst ha
  have hi := nC s
  have hlen := h.len
  have hok := h.ok
  have hpt := h.pt
  unfold bC.xK bC.jV bC.Q9 bC.Rf
  rw [lG h.dU hg, if_neg (by decide), if_neg (by decide), EF, dR, h.pt]
  have hb := Cm (l := s.c.L) (x := 0) (by omega)
  unfold BA
  simp only [Int.natCast_zero] at hb
  by_cases hL : s.c.L = []
  · right
    rw [hL] at hb
    simp only [List.length_nil] at hb
    have e : ((dV s.c.L 0 : Nat) : Int) ≤ 0 := by rw [hL]; omega
    unfold bC.Ub bC.Uc
    rw [if_pos e, if_pos e]
    refine ⟨?_, (MJ h.dU).trans hL⟩
    unfold bC.mG; rw [if_pos hi]; decide
  · left
    have hl : 0 < s.c.L.length := List.length_pos_iff.2 hL
    have hm := hb.2 (by simpa using hl)
    generalize dV s.c.L 0 = m at hb hm
    have hm1 : 0 < m := by simpa using hm
    have e : ¬ ((m : Nat) : Int) ≤ 0 := by omega
    unfold bC.Ub bC.Uc
    rw [if_neg e, if_neg e]
    have hq := h.fwd hA (k := m) (by omega)
    rw [dR, h.pt, Int.zero_add] at hq
    have hkk := (yX h hA (i := 0) (j := m) (back := false) rfl (by rw [N9 (by omega)]; omega)).1
    have hE := Rx hi (i := 0) (j := m) (back := false) (by rw [dR]; omega) (by rw [dR]; omega) hkk
    have hc := MF (s := s.aW) hi (i := 0) (j := m) (back := false) (by rw [dR]; omega) (by rw [dR]; omega) hkk (by rw [dR, h.pt]; omega)
    rw [hE]
    refine ⟨by unfold bC.mG; rw [if_pos hc.2.2.2.2.1], 0, b + m, hq, vZ _ hc.2.2.2.2.1 ((N8 _ _ _ _).trans (rD h.dU)), by omega, by simp, fun hA0 => ?_⟩
    have h9 : A.length = 0 := by rw [hA0]; rfl
    omega
theorem KW.back (h : KW true A k s) (hA : A.length ≤ 1024) : (s.uq = 0 ∧ KW true A (k + 1) s.uw) ∨ (s.uq ≠ 0 ∧ s.uw.c.L = []) := by
  obtain ⟨a, b, h, hg, hk, hb0, hz⟩ := h
  simp only [if_true] at hb0
  subst hb0
  have hi := nC s
  have hlen := h.len
  have hok := h.ok
  have hpt := h.pt
  obtain ⟨x, hx⟩ : ∃ x : Nat, a = x := ⟨a.toNat, by omega⟩
  subst hx
  unfold bC.uq bC.uw bC.Q9 bC.Rf
  rw [lG h.dU hg, if_pos (by decide), if_pos (by decide), EG, dR, h.pt]
  have hb := AO (l := s.c.L) (x := x) (by omega)
  unfold tu
  by_cases hL : x = 0
  · right
    have e : ((x : Nat) : Int) ≤ ((jc s.c.L (x : Int) : Nat) : Int) := by omega
    unfold bC.Ub bC.Uc
    rw [if_pos e, if_pos e]
    refine ⟨?_, (MJ h.dU).trans (List.length_eq_zero_iff.1 (by omega))⟩
    unfold bC.mG; rw [if_pos hi]; decide
  · left
    have hm := hb.2 (by omega)
    generalize jc s.c.L (x : Int) = m at hb hm
    have e : ¬ ((x : Nat) : Int) ≤ ((m : Nat) : Int) := by omega
    unfold bC.Ub bC.Uc
    rw [if_neg e, if_neg e]
    have hq := h.back hA (k := x - m) (by omega)
    rw [dR, h.pt, show (x : Int) - (x - m) = m from by omega] at hq
    have hkk := (yX h hA (i := m) (j := x) (back := true) rfl (by rw [N9 (by omega)]; omega)).1
    have hE := Rx hi (i := m) (j := x) (back := true) (by rw [dR]; omega) (by rw [dR]; omega) hkk
    have hc := MF (s := s.aW) hi (i := m) (j := x) (back := true) (by rw [dR]; omega) (by rw [dR]; omega) hkk (by rw [dR, h.pt]; omega)
    rw [hE]
    refine ⟨by unfold bC.mG; rw [if_pos hc.2.2.2.2.1], m, A.length, hq, vZ _ hc.2.2.2.2.1 ((N8 _ _ _ _).trans (rD h.dU)), by omega, by simp, fun hA0 => ?_⟩
    have h9 : A.length = 0 := by rw [hA0]; rfl
    omega
end
section
variable {L : List Int}
theorem start_eq (hA : L.length ≤ 1024) : AB [] L = (bC.new (Gs []) (Gt []) 4096).start (Gs []) (Gt []) 4096 L := by
  unfold AB bC.II; rw [if_pos (by rw [Ez, if_neg (by omega)])]
theorem Vh {n : Nat} {a : Int} (h : 0 ≤ a ∧ a ≤ n) : VI n a = 0 := by unfold VI; rw [if_pos h]
end
end Go.Proofs.YtgndbccogcofjaaGreatDoor
end
section
namespace Go.Proofs.YtgndbccogcofjaaGreatDoor
open Go.RowKit
open _root_.Go.Proofs.Tryz
def EH (l : List Int) (x : Int) : Int := Dq l x
def Ku (l : List Int) (x : Int) : Int := Jp l x
def iF (l : List Int) (p n : Int) : Int := if 0 ≤ n then qK EH l n.toNat p else qK Ku l (-n).toNat p
theorem Pg {w0 : World} (hT : mD w0) : Ee w0 (.func (.func 126) #[] #[]) EH :=
  ⟨rfl, fun F W v l x H hr => ⟨126, [], [], _, _, rfl, func126, rfl, rfl, Qc H hT hr⟩⟩
theorem Ph {w0 : World} (hT : mD w0) : Ee w0 (.func (.func 124) #[] #[]) Ku :=
  ⟨rfl, fun F W v l x H hr => ⟨124, [], [], _, _, rfl, func124, rfl, rfl, Qd H hT hr⟩⟩
namespace bC
variable (s : bC)
def IX (n : Int) : Int := if n ≠ 0 ∧ iF s.c.L s.c.pt n = s.c.pt then 6 else s.nK (iF s.c.L s.c.pt n)
def IY (n : Int) : bC := if n ≠ 0 ∧ iF s.c.L s.c.pt n = s.c.pt then s else s.kN (iF s.c.L s.c.pt n)
end bC
section
variable {w0 w : World} {F : HP} {c e : Nat} {s : bC} {lv kv : Value} {l keys : List Int} {p m n nn i j : Int} {g back : Bool}
theorem BF (H : aB w0 w (dH c (.cells #[.pointer (some ⟨e, 0, none⟩), lv, .int .i64 s.c.pt, .int .i64 m, .int .i64 nn, .bool g, kv] 79 (0, 0)) • gW 21 .i32 lv s.c.L • dA e s • F)) (hT : mD w0) (h3 : -1000000 ≤ n) (h4 : n ≤ 1000000) : fG prog 120 #[.pointer (some ⟨c, 0, none⟩), .int .i64 n] w fun v w' => v = .int .i64 (s.IX n) ∧ aB w0 w' (dH c (.cells #[.pointer (some ⟨e, 0, none⟩), lv, .int .i64 s.c.pt, .int .i64 m, .int .i64 nn, .bool g, kv] 79 (0, 0)) • gW 21 .i32 lv s.c.L • dA e (s.IY n) • F) := by
 refine gG func120 ntmps120 ?_
 dsimp only [bf, Nat.reduceAdd]
 refine ay (ah (aV rfl (aA (aj (ay (ah (aN rfl (bM rfl (bG 2 underlying79 rfl sizeOf3 rfl (dX underlying3 rfl (H).get.2 rfl (aV rfl (aA (aj (ay (ay (ah (aN rfl (aU (jh rfl rfl) (aA (aj (aP rfl (fun h1 => ?_) (fun h1 => ?_))))))))))))))))))))))
 ·(try simp only [aF] at h1)
  have hc := h1
  refine ah (aN rfl (aN rfl (bM rfl (bG 2 underlying79 rfl sizeOf3 rfl (dX underlying3 rfl (H).get.2 rfl (aN rfl (bW rfl func125 (tC H.f2.f2 (Pg hT) (by omega)) ?_)))))))
  rintro _ w1 ⟨rfl, H1⟩
  refine aV rfl (aA (aj (ay (ay (ah (aN rfl (aU (bY rfl rfl) (eP rfl (fun h2 => ?_) (fun h2 => ?_)))))))))
  ·(try simp only [aF] at h2)
   refine aX (aN rfl (aX (aN rfl (aX (bM rfl (aX (bG 2 underlying79 rfl sizeOf3 rfl (aX (dX underlying3 rfl (H1).get.2 rfl (aX (aU (fE rfl rfl) (fP rfl rfl (aA (aj (aP rfl (fun h3 => ?_) (fun h3 => ?_))))))))))))))))
   ·(try simp only [aF] at h3)
    refine ay (ah (aV rfl (aA (aj (aI (aK (aH (.inl rfl) results120 rfl ?_)))))))
    exact ⟨by unfold bC.IX; rw [if_pos (by unfold iF; (first | rw [if_pos hc] | rw [if_neg (by omega)]); omega)], by unfold bC.IY; rw [if_pos (by unfold iF; (first | rw [if_pos hc] | rw [if_neg (by omega)]); omega)]; exact H1.f3.f3.f3⟩
   ·(try simp only [aF] at h3)
    refine aO (aj (ay (ah (aN rfl (bM rfl (bG 0 underlying79 rfl sizeOf26 rfl (dX underlying26 rfl (H1).get.2 rfl (aN rfl (bW rfl func42 (jl H1.f3) ?_)))))))))
    rintro _ w2 ⟨rfl, H2⟩
    refine aV rfl (aA (aj (aI (aH (.inl rfl) results120 rfl ?_))))
    exact ⟨by unfold bC.IX; rw [if_neg (by unfold iF; (first | rw [if_pos hc] | rw [if_neg (by omega)]); omega)]; unfold iF; first | rw [if_pos hc] | rw [if_neg (by omega)], by unfold bC.IY; rw [if_neg (by unfold iF; (first | rw [if_pos hc] | rw [if_neg (by omega)]); omega)]; unfold iF; first | (rw [if_pos hc]; exact H2.f3.f3) | (rw [if_neg (by omega)]; exact H2.f3.f3)⟩
  ·(try simp only [aF] at h2)
   refine bD (bD (bD (bD (bD (bD (dL rfl rfl (aA (aj (mO (aO (aj (ay (ah (aN rfl (bM rfl (bG 0 underlying79 rfl sizeOf26 rfl (dX underlying26 rfl (H1).get.2 rfl (aN rfl (bW rfl func42 (jl H1.f3) ?_)))))))))))))))))))
   rintro _ w3 ⟨rfl, H3⟩
   refine aV rfl (aA (aj (aI (aH (.inl rfl) results120 rfl ?_))))
   exact ⟨by unfold bC.IX; rw [if_neg (by unfold iF; (first | rw [if_pos hc] | rw [if_neg (by omega)]); omega)]; unfold iF; first | rw [if_pos hc] | rw [if_neg (by omega)], by unfold bC.IY; rw [if_neg (by unfold iF; (first | rw [if_pos hc] | rw [if_neg (by omega)]); omega)]; unfold iF; first | (rw [if_pos hc]; exact H3.f3.f3) | (rw [if_neg (by omega)]; exact H3.f3.f3)⟩
 ·(try simp only [aF] at h1)
  have hc := h1
  refine ah (aN rfl (aN rfl (bM rfl (bG 2 underlying79 rfl sizeOf3 rfl (dX underlying3 rfl (H).get.2 rfl (aN rfl (aU (FK rfl (by omega)) (bW rfl func125 (tC H.f2.f2 (Ph hT) (by omega)) ?_))))))))
  rintro _ w4 ⟨rfl, H4⟩
  refine aV rfl (aA (aj (ay (ay (ah (aN rfl (aU (bY rfl rfl) (eP rfl (fun h4 => ?_) (fun h4 => ?_)))))))))
  ·(try simp only [aF] at h4)
   refine aX (aN rfl (aX (aN rfl (aX (bM rfl (aX (bG 2 underlying79 rfl sizeOf3 rfl (aX (dX underlying3 rfl (H4).get.2 rfl (aX (aU (fE rfl rfl) (fP rfl rfl (aA (aj (aP rfl (fun h5 => ?_) (fun h5 => ?_))))))))))))))))
   ·(try simp only [aF] at h5)
    refine ay (ah (aV rfl (aA (aj (aI (aK (aH (.inl rfl) results120 rfl ?_)))))))
    exact ⟨by unfold bC.IX; rw [if_pos (by unfold iF; (first | rw [if_pos hc] | rw [if_neg (by omega)]); omega)], by unfold bC.IY; rw [if_pos (by unfold iF; (first | rw [if_pos hc] | rw [if_neg (by omega)]); omega)]; exact H4.f3.f3.f3⟩
   ·(try simp only [aF] at h5)
    refine aO (aj (ay (ah (aN rfl (bM rfl (bG 0 underlying79 rfl sizeOf26 rfl (dX underlying26 rfl (H4).get.2 rfl (aN rfl (bW rfl func42 (jl H4.f3) ?_)))))))))
    rintro _ w5 ⟨rfl, H5⟩
    refine aV rfl (aA (aj (aI (aH (.inl rfl) results120 rfl ?_))))
    exact ⟨by unfold bC.IX; rw [if_neg (by unfold iF; (first | rw [if_pos hc] | rw [if_neg (by omega)]); omega)]; unfold iF; first | rw [if_pos hc] | rw [if_neg (by omega)], by unfold bC.IY; rw [if_neg (by unfold iF; (first | rw [if_pos hc] | rw [if_neg (by omega)]); omega)]; unfold iF; first | (rw [if_pos hc]; exact H5.f3.f3) | (rw [if_neg (by omega)]; exact H5.f3.f3)⟩
  ·(try simp only [aF] at h4)
   refine bD (bD (bD (bD (bD (bD (dL rfl rfl (aA (aj (mO (aO (aj (ay (ah (aN rfl (bM rfl (bG 0 underlying79 rfl sizeOf26 rfl (dX underlying26 rfl (H4).get.2 rfl (aN rfl (bW rfl func42 (jl H4.f3) ?_)))))))))))))))))))
   rintro _ w6 ⟨rfl, H6⟩
   refine aV rfl (aA (aj (aI (aH (.inl rfl) results120 rfl ?_))))
   exact ⟨by unfold bC.IX; rw [if_neg (by unfold iF; (first | rw [if_pos hc] | rw [if_neg (by omega)]); omega)]; unfold iF; first | rw [if_pos hc] | rw [if_neg (by omega)], by unfold bC.IY; rw [if_neg (by unfold iF; (first | rw [if_pos hc] | rw [if_neg (by omega)]); omega)]; unfold iF; first | (rw [if_pos hc]; exact H6.f3.f3) | (rw [if_neg (by omega)]; exact H6.f3.f3)⟩
theorem EI {w0 : World} {keys : List Int} {s : bC} (hT : mD w0) : En w0 50 keys s (s.IX s.count) (s.IY s.count) := by
 intro F w c e lv kv H hk
 have hco := rX (Em H.f3)
 refine gG func50 ntmps50 ?_
 dsimp only [bf, Nat.reduceAdd]
 refine ay (ah (aV rfl (aA (aj (ay (ah (aN rfl (aN rfl (bM rfl (bG 4 underlying79 rfl sizeOf3 rfl (dX underlying3 rfl (H).get.2 rfl (bW rfl func120 (BF H.f3.f3.f3 hT (by omega) (by omega)) ?_))))))))))))
 rintro _ w1 ⟨rfl, H1⟩
 refine aV rfl (aA (aj (aI (aH (.inl rfl) results50 rfl ?_))))
 exact ⟨rfl, H1.f3.f3.f3⟩
theorem Kv {w0 : World} {keys : List Int} {s : bC} (hT : mD w0) : En w0 51 keys s (s.IX (-s.count)) (s.IY (-s.count)) := by
 intro F w c e lv kv H hk
 have hco := rX (Em H.f3)
 refine gG func51 ntmps51 ?_
 dsimp only [bf, Nat.reduceAdd]
 refine ay (ah (aV rfl (aA (aj (ay (ah (aN rfl (aN rfl (bM rfl (bG 4 underlying79 rfl sizeOf3 rfl (dX underlying3 rfl (H).get.2 rfl (aU (FK rfl (by omega)) (bW rfl func120 (BF H.f3.f3.f3 hT (by omega) (by omega)) ?_)))))))))))))
 rintro _ w1 ⟨rfl, H1⟩
 refine aV rfl (aA (aj (aI (aH (.inl rfl) results51 rfl ?_))))
 exact ⟨rfl, H1.f3.f3.f3⟩
theorem Kw {w0 : World} {keys : List Int} {s : bC} (hT : mD w0) : En w0 53 keys s (s.nK (bV s.c.L s.c.pt (-s.count))) (s.kN (bV s.c.L s.c.pt (-s.count))) := by
 intro F w c e lv kv H hk
 have hco := rX (Em H.f3)
 refine gG func53 ntmps53 ?_
 dsimp only [bf, Nat.reduceAdd]
 refine ay (ah (aV rfl (aA (aj (ay ?_)))))
 have BR := H.drew
 have fA := aB.kp (BR.f3.f3.f3)
 refine yI [3, 8] fA rfl (iD 0 rfl fA rfl (jS 1 rfl fA rfl (gV 2 rfl fA 0 underlying79 rfl sizeOf26 rfl (jB 3 rfl fA (fun W hW => jR underlying26 rfl ((Kp.h hW)).get.2 rfl) (iD 4 rfl fA rfl (iD 5 rfl fA rfl (jS 6 rfl fA rfl (gV 7 rfl fA 4 underlying79 rfl sizeOf3 rfl (jB 8 rfl fA (fun W hW => jR underlying3 rfl ((Kp.h hW)).get.2 rfl) (jr 9 rfl fA (fun _ => FK rfl (by omega)) (kQ 10 rfl (wJ rfl func121 (tH BR.f2.f2 hT (by omega) (by omega))) ?_)))))))))))
 rintro _ w1 ⟨rfl, H1⟩
 have IU := aB.kp (H1.f3.f3.f3)
 refine dZ IU (fun W hW => (Kp.h hW).f3.f3.f3) ?_
 refine kQ 11 rfl (wJ rfl func42 (jl H1.f3)) ?_
 rintro _ w2 ⟨rfl, H2⟩
 have OG := aB.kp (H2.f3.f3.f3)
 refine gB OG (by kernel_rfl) ?_
 refine jr 12 rfl OG (fun _ => eH rfl) (qQ (aj (aI (aH (.inl rfl) results53 rfl ?_))))
 exact ⟨rfl, H2.f3.f3⟩
end
end Go.Proofs.YtgndbccogcofjaaGreatDoor
end
section
namespace Go.Proofs.YtgndbccogcofjaaGreatDoor
open Go.RowKit
open _root_.Go.Proofs.Tryz
def y7 (r : Int) : Int := if 97 ≤ r ∧ r ≤ 122 ∨ 224 ≤ r ∧ r ≤ 254 ∧ r ≠ 247 then IntKind.i32.wrap (r - 32) else r
def xM (r : Int) : Int := if 65 ≤ r ∧ r ≤ 90 ∨ 192 ≤ r ∧ r ≤ 222 ∧ r ≠ 215 then IntKind.i32.wrap (r + 32) else r
def acd (first : Bool) (r : Int) : Int := if first = true ∧ bg r = true then y7 r else xM r
def wo (f : Bool → Int → Int) : Bool → List Int → List Int
  | _, [] => []
  | a, r :: l => f (!a) r :: wo f (bg r) l
def IV (l : List Int) (k : Nat) : Bool := if k = 0 then false else bg (l.getD (k - 1) 0)
theorem Oa (f : Bool → Int → Int) (l : List Int) : ∀ a, (wo f a l).length = l.length := by
  induction l with
  | nil => intro a; rfl
  | cons r l ih => intro a; show (wo f (bg r) l).length + 1 = _; rw [ih]; rfl
theorem Ry (f : Bool → Int → Int) (l : List Int) (r : Int) : ∀ a, wo f a (l ++ [r]) = wo f a l ++ [f (!(if l = [] then a else bg (l.getLastD 0))) r] := by
  induction l with
  | nil => intro a; rfl
  | cons x l ih =>
    intro a
    show f (!a) x :: wo f (bg x) (l ++ [r]) = f (!a) x :: wo f (bg x) l ++ [_]
    rw [ih]
    by_cases h : l = []
    · subst h; rfl
    · rw [if_neg h, if_neg (by simp), List.getLastD_cons, List.cons_append]
      congr 4
      cases l with
      | nil => exact absurd rfl h
      | cons y l => rw [List.getLastD_cons, List.getLastD_cons]
theorem Ky (f : Bool → Int → Int) {l : List Int} {k : Nat} (h : k < l.length) : wo f false (l.take (k + 1)) = wo f false (l.take k) ++ [f (!IV l k) (l.getD k 0)] := by
  have e : l.take (k + 1) = l.take k ++ [l.getD k 0] := by rw [List.take_add_one, List.getElem?_eq_getElem h, List.getD_eq_getElem?_getD, List.getElem?_eq_getElem h]; rfl
  rw [e, Ry]
  congr 4
  unfold IV
  cases k with
  | zero => simp
  | succ k =>
    have hne : l.take (k + 1) ≠ [] := fun h9 => by
      have h10 : (l.take (k + 1)).length = 0 := by rw [h9]; rfl
      rw [List.length_take] at h10; omega
    rw [if_neg hne, if_neg (by omega)]
    congr 1
    rw [List.getLastD_eq_getLast?, List.getLast?_take]
    simp [List.getD_eq_getElem?_getD, List.getElem?_eq_getElem (show k < l.length by omega)]
section
variable {w0 w : World} {F : HP} {r : Int} {fv : Value} {f : Bool → Int → Int}
theorem WW : fG prog 133 #[.int .i32 r] w fun v w' => v = .int .i32 (y7 r) ∧ w = w' := by
 refine gG func133 ntmps133 ?_
 dsimp only [bf, Nat.reduceAdd]
 refine ay (ah (aV rfl (aA (aj (ay (ay (ah (aN rfl (aU (jh rfl rfl) (eP rfl (fun h1 => ?_) (fun h1 => ?_)))))))))))
 ·(try simp only [aF] at h1)
  try (exfalso; first | contradiction | omega)
  all_goals
   refine aX (aN rfl (aX (aU (jZ rfl rfl) (fP rfl rfl (eP rfl (fun h2 => ?_) (fun h2 => ?_))))))
   ·(try simp only [aF] at h2)
    try (exfalso; first | contradiction | omega)
    all_goals
     refine bD (bD (bD (iQ (iQ (bD (bD (iQ (iQ (bD (fP rfl rfl (aA (aj (wK (ay (ah (aN rfl (aU (KJ rfl rfl) (aV rfl (aA (aj (aI (aK (aH (.inl rfl) results133 rfl ?_)))))))))))))))))))))))
     refine ⟨?_, rfl⟩; unfold y7; first | rw [if_pos (by omega)] | rw [if_neg (by omega)]
   ·(try simp only [aF] at h2)
    try (exfalso; first | contradiction | omega)
    all_goals
     refine aX (aN rfl (aX (aU (jh rfl rfl) (aX (eP rfl (fun h3 => ?_) (fun h3 => ?_))))))
     ·(try simp only [aF] at h3)
      try (exfalso; first | contradiction | omega)
      all_goals
       refine aX (aN rfl (aX (aU (jZ rfl rfl) (aX (fP rfl rfl (aX (eP rfl (fun h4 => ?_) (fun h4 => ?_))))))))
       ·(try simp only [aF] at h4)
        try (exfalso; first | contradiction | omega)
        all_goals
         refine aX (aN rfl (aX (aU (bY rfl rfl) (aX (fP rfl rfl (dL rfl rfl (aA (aj (aP rfl (fun h5 => ?_) (fun h5 => ?_))))))))))
         ·(try simp only [aF] at h5)
          try (exfalso; first | contradiction | omega)
          all_goals
           refine ay (ah (aN rfl (aU (KJ rfl rfl) (aV rfl (aA (aj (aI (aK (aH (.inl rfl) results133 rfl ?_)))))))))
           refine ⟨?_, rfl⟩; unfold y7; first | rw [if_pos (by omega)] | rw [if_neg (by omega)]
         ·(try simp only [aF] at h5)
          try (exfalso; first | contradiction | omega)
          all_goals
           refine aO (aj (ay (ah (aN rfl (aV rfl (aA (aj (aI (aH (.inl rfl) results133 rfl ?_)))))))))
           refine ⟨?_, rfl⟩; unfold y7; first | rw [if_pos (by omega)] | rw [if_neg (by omega)]
       ·(try simp only [aF] at h4)
        try (exfalso; first | contradiction | omega)
        all_goals
         refine bD (bD (aX (dL rfl rfl (dL rfl rfl (aA (aj (mO (aO (aj (ay (ah (aN rfl (aV rfl (aA (aj (aI (aH (.inl rfl) results133 rfl ?_)))))))))))))))))
         refine ⟨?_, rfl⟩; unfold y7; first | rw [if_pos (by omega)] | rw [if_neg (by omega)]
     ·(try simp only [aF] at h3)
      try (exfalso; first | contradiction | omega)
      all_goals
       refine bD (bD (aX (dL rfl rfl (aX (aN rfl (bD (bD (aX (dL rfl rfl (dL rfl rfl (aA (aj (mO (aO (aj (ay (ah (aN rfl (aV rfl (aA (aj (aI (aH (.inl rfl) results133 rfl ?_)))))))))))))))))))))))
       refine ⟨?_, rfl⟩; unfold y7; first | rw [if_pos (by omega)] | rw [if_neg (by omega)]
 ·(try simp only [aF] at h1)
  try (exfalso; first | contradiction | omega)
  all_goals
   refine bD (bD (dL rfl rfl (aN rfl (aX (aN rfl (aX (aU (jh rfl rfl) (aX (eP rfl (fun h6 => ?_) (fun h6 => ?_))))))))))
   ·(try simp only [aF] at h6)
    try (exfalso; first | contradiction | omega)
    all_goals
     refine aX (aN rfl (aX (aU (jZ rfl rfl) (aX (fP rfl rfl (aX (eP rfl (fun h7 => ?_) (fun h7 => ?_))))))))
     ·(try simp only [aF] at h7)
      try (exfalso; first | contradiction | omega)
      all_goals
       refine aX (aN rfl (aX (aU (bY rfl rfl) (aX (fP rfl rfl (dL rfl rfl (aA (aj (aP rfl (fun h8 => ?_) (fun h8 => ?_))))))))))
       ·(try simp only [aF] at h8)
        try (exfalso; first | contradiction | omega)
        all_goals
         refine ay (ah (aN rfl (aU (KJ rfl rfl) (aV rfl (aA (aj (aI (aK (aH (.inl rfl) results133 rfl ?_)))))))))
         refine ⟨?_, rfl⟩; unfold y7; first | rw [if_pos (by omega)] | rw [if_neg (by omega)]
       ·(try simp only [aF] at h8)
        try (exfalso; first | contradiction | omega)
        all_goals
         refine aO (aj (ay (ah (aN rfl (aV rfl (aA (aj (aI (aH (.inl rfl) results133 rfl ?_)))))))))
         refine ⟨?_, rfl⟩; unfold y7; first | rw [if_pos (by omega)] | rw [if_neg (by omega)]
     ·(try simp only [aF] at h7)
      try (exfalso; first | contradiction | omega)
      all_goals
       refine bD (bD (aX (dL rfl rfl (dL rfl rfl (aA (aj (mO (aO (aj (ay (ah (aN rfl (aV rfl (aA (aj (aI (aH (.inl rfl) results133 rfl ?_)))))))))))))))))
       refine ⟨?_, rfl⟩; unfold y7; first | rw [if_pos (by omega)] | rw [if_neg (by omega)]
   ·(try simp only [aF] at h6)
    try (exfalso; first | contradiction | omega)
    all_goals
     refine bD (bD (aX (dL rfl rfl (aX (aN rfl (bD (bD (aX (dL rfl rfl (dL rfl rfl (aA (aj (mO (aO (aj (ay (ah (aN rfl (aV rfl (aA (aj (aI (aH (.inl rfl) results133 rfl ?_)))))))))))))))))))))))
     refine ⟨?_, rfl⟩; unfold y7; first | rw [if_pos (by omega)] | rw [if_neg (by omega)]
theorem WX : fG prog 135 #[.int .i32 r] w fun v w' => v = .int .i32 (xM r) ∧ w = w' := by
 refine gG func135 ntmps135 ?_
 dsimp only [bf, Nat.reduceAdd]
 refine ay (ah (aV rfl (aA (aj (ay (ay (ah (aN rfl (aU (jh rfl rfl) (eP rfl (fun h1 => ?_) (fun h1 => ?_)))))))))))
 ·(try simp only [aF] at h1)
  try (exfalso; first | contradiction | omega)
  all_goals
   refine aX (aN rfl (aX (aU (jZ rfl rfl) (fP rfl rfl (eP rfl (fun h2 => ?_) (fun h2 => ?_))))))
   ·(try simp only [aF] at h2)
    try (exfalso; first | contradiction | omega)
    all_goals
     refine bD (bD (bD (iQ (iQ (bD (bD (iQ (iQ (bD (fP rfl rfl (aA (aj (wK (ay (ah (aN rfl (aU (GK rfl rfl) (aV rfl (aA (aj (aI (aK (aH (.inl rfl) results135 rfl ?_)))))))))))))))))))))))
     refine ⟨?_, rfl⟩; unfold xM; first | rw [if_pos (by omega)] | rw [if_neg (by omega)]
   ·(try simp only [aF] at h2)
    try (exfalso; first | contradiction | omega)
    all_goals
     refine aX (aN rfl (aX (aU (jh rfl rfl) (aX (eP rfl (fun h3 => ?_) (fun h3 => ?_))))))
     ·(try simp only [aF] at h3)
      try (exfalso; first | contradiction | omega)
      all_goals
       refine aX (aN rfl (aX (aU (jZ rfl rfl) (aX (fP rfl rfl (aX (eP rfl (fun h4 => ?_) (fun h4 => ?_))))))))
       ·(try simp only [aF] at h4)
        try (exfalso; first | contradiction | omega)
        all_goals
         refine aX (aN rfl (aX (aU (bY rfl rfl) (aX (fP rfl rfl (dL rfl rfl (aA (aj (aP rfl (fun h5 => ?_) (fun h5 => ?_))))))))))
         ·(try simp only [aF] at h5)
          try (exfalso; first | contradiction | omega)
          all_goals
           refine ay (ah (aN rfl (aU (GK rfl rfl) (aV rfl (aA (aj (aI (aK (aH (.inl rfl) results135 rfl ?_)))))))))
           refine ⟨?_, rfl⟩; unfold xM; first | rw [if_pos (by omega)] | rw [if_neg (by omega)]
         ·(try simp only [aF] at h5)
          try (exfalso; first | contradiction | omega)
          all_goals
           refine aO (aj (ay (ah (aN rfl (aV rfl (aA (aj (aI (aH (.inl rfl) results135 rfl ?_)))))))))
           refine ⟨?_, rfl⟩; unfold xM; first | rw [if_pos (by omega)] | rw [if_neg (by omega)]
       ·(try simp only [aF] at h4)
        try (exfalso; first | contradiction | omega)
        all_goals
         refine bD (bD (aX (dL rfl rfl (dL rfl rfl (aA (aj (mO (aO (aj (ay (ah (aN rfl (aV rfl (aA (aj (aI (aH (.inl rfl) results135 rfl ?_)))))))))))))))))
         refine ⟨?_, rfl⟩; unfold xM; first | rw [if_pos (by omega)] | rw [if_neg (by omega)]
     ·(try simp only [aF] at h3)
      try (exfalso; first | contradiction | omega)
      all_goals
       refine bD (bD (aX (dL rfl rfl (aX (aN rfl (bD (bD (aX (dL rfl rfl (dL rfl rfl (aA (aj (mO (aO (aj (ay (ah (aN rfl (aV rfl (aA (aj (aI (aH (.inl rfl) results135 rfl ?_)))))))))))))))))))))))
       refine ⟨?_, rfl⟩; unfold xM; first | rw [if_pos (by omega)] | rw [if_neg (by omega)]
 ·(try simp only [aF] at h1)
  try (exfalso; first | contradiction | omega)
  all_goals
   refine bD (bD (dL rfl rfl (aN rfl (aX (aN rfl (aX (aU (jh rfl rfl) (aX (eP rfl (fun h6 => ?_) (fun h6 => ?_))))))))))
   ·(try simp only [aF] at h6)
    try (exfalso; first | contradiction | omega)
    all_goals
     refine aX (aN rfl (aX (aU (jZ rfl rfl) (aX (fP rfl rfl (aX (eP rfl (fun h7 => ?_) (fun h7 => ?_))))))))
     ·(try simp only [aF] at h7)
      try (exfalso; first | contradiction | omega)
      all_goals
       refine aX (aN rfl (aX (aU (bY rfl rfl) (aX (fP rfl rfl (dL rfl rfl (aA (aj (aP rfl (fun h8 => ?_) (fun h8 => ?_))))))))))
       ·(try simp only [aF] at h8)
        try (exfalso; first | contradiction | omega)
        all_goals
         refine ay (ah (aN rfl (aU (GK rfl rfl) (aV rfl (aA (aj (aI (aK (aH (.inl rfl) results135 rfl ?_)))))))))
         refine ⟨?_, rfl⟩; unfold xM; first | rw [if_pos (by omega)] | rw [if_neg (by omega)]
       ·(try simp only [aF] at h8)
        try (exfalso; first | contradiction | omega)
        all_goals
         refine aO (aj (ay (ah (aN rfl (aV rfl (aA (aj (aI (aH (.inl rfl) results135 rfl ?_)))))))))
         refine ⟨?_, rfl⟩; unfold xM; first | rw [if_pos (by omega)] | rw [if_neg (by omega)]
     ·(try simp only [aF] at h7)
      try (exfalso; first | contradiction | omega)
      all_goals
       refine bD (bD (aX (dL rfl rfl (dL rfl rfl (aA (aj (mO (aO (aj (ay (ah (aN rfl (aV rfl (aA (aj (aI (aH (.inl rfl) results135 rfl ?_)))))))))))))))))
       refine ⟨?_, rfl⟩; unfold xM; first | rw [if_pos (by omega)] | rw [if_neg (by omega)]
   ·(try simp only [aF] at h6)
    try (exfalso; first | contradiction | omega)
    all_goals
     refine bD (bD (aX (dL rfl rfl (aX (aN rfl (bD (bD (aX (dL rfl rfl (dL rfl rfl (aA (aj (mO (aO (aj (ay (ah (aN rfl (aV rfl (aA (aj (aI (aH (.inl rfl) results135 rfl ?_)))))))))))))))))))))))
     refine ⟨?_, rfl⟩; unfold xM; first | rw [if_pos (by omega)] | rw [if_neg (by omega)]
def EJ (w0 : World) (fv : Value) (f : Bool → Int → Int) : Prop := fv.oneCell' = true ∧ ∀ (F : HP) (W : World) (a : Bool) (r : Int), aB w0 W F → FU prog fv [.bool a, .int .i32 r] W fun v W' => v = .int .i32 (f a r) ∧ aB w0 W' F
theorem Kz {a : Bool} (H : aB w0 w F) : fG prog 132 #[.bool a, .int .i32 r] w fun v w' => v = .int .i32 (y7 r) ∧ aB w0 w' F := by
 refine gG func132 ntmps132 ?_
 dsimp only [bf, Nat.reduceAdd]
 refine ay (ah (aV rfl (aA (aj (ay (ah (aN rfl (bW rfl func133 (WW) ?_))))))))
 rintro _ _ ⟨rfl, rfl⟩
 refine aV rfl (aA (aj (aI (aH (.inl rfl) results132 rfl ?_))))
 exact ⟨rfl, H⟩
theorem FB {a : Bool} (H : aB w0 w F) : fG prog 134 #[.bool a, .int .i32 r] w fun v w' => v = .int .i32 (xM r) ∧ aB w0 w' F := by
 refine gG func134 ntmps134 ?_
 dsimp only [bf, Nat.reduceAdd]
 refine ay (ah (aV rfl (aA (aj (ay (ah (aN rfl (bW rfl func135 (WX) ?_))))))))
 rintro _ _ ⟨rfl, rfl⟩
 refine aV rfl (aA (aj (aI (aH (.inl rfl) results134 rfl ?_))))
 exact ⟨rfl, H⟩
theorem Ur {w0 : World} : EJ w0 (.func (.func 132) #[] #[]) fun _ => y7 :=
  ⟨rfl, fun F W a r H => ⟨_, [], [], _, _, rfl, func132, rfl, rfl, Kz H⟩⟩
theorem Pj {w0 : World} : EJ w0 (.func (.func 134) #[] #[]) fun _ => xM :=
  ⟨rfl, fun F W a r H => ⟨_, [], [], _, _, rfl, func134, rfl, rfl, FB H⟩⟩
end
end Go.Proofs.YtgndbccogcofjaaGreatDoor
end
