import Derived.Test.YtgndbccogcofjaaGreatDoorZ2
import Derived.Test.YtgndbccogcofjaaGreatDoorZ17
import Derived.Test.YtgndbccogcofjaaGreatDoorZ10
import Derived.Test.YtgndbccogcofjaaGreatDoorZ5
import Derived.Test.YtgndbccogcofjaaGreatDoorCards
import Derived.Test.YtgndbccogcofjaaGreatDoorZ6
import Derived.SevenTiedAt
set_option linter.unusedSimpArgs false
set_option linter.unusedVariables false
/- EmacsYanksAll in its first form, as the card states it, for whatever the program's variables hold as its text lays them. No condition beside the form's own.
Texts of mine, joined, their names in short: EmMade FieldVal EmBegun EmKM LawEmYanks HasEmYanks. -/
section
namespace Go.Proofs.YtgndbccogcofjaaGreatDoor
open Go.RowKit
open _root_.Go.Proofs.Tryz
namespace bg
variable (s : bg)
def LX (x : Int) : bg := (s.aU.kZ x).gq (s.aU.qx x)
end bg
def uH (l : List oQ) (ln : List Int) : bg := (bg.new (Fa l) (Fb l) 4096).GI (Fa l) (Fb l) 4096 ln
def ru (l : List oQ) (ln : List Int) (pt : Int) : bg := (uH l ln).LX pt
theorem xW (l : List oQ) (ln : List Int) : (bg.new (Fa l) (Fb l) 4096).rP ln = if 1024 < ln.length then 3 else 0 := by
  unfold bg.rP; rw [if_neg (by rw [show (bg.new (Fa l) (Fb l) 4096).dP = false from rfl]; decide)]
theorem wu {t : bg} (h : t.dP = true) (err : Int) : (t.gq err).dP = false := by
  by_cases he : err = 0
  · rw [he]; exact wo t h
  · unfold bg.gq; rw [if_pos h, if_neg he]; rfl
theorem Fh (s : bg) : s.aU.dP = true := by unfold bg.aU; split; assumption; rfl
theorem NJ (s : bg) (x : Int) : (s.LX x).dP = false := wu (by unfold bg.kZ; rw [if_pos (Fh s)]; exact Fh s) _
theorem NK (l : List oQ) (ln : List Int) (x : Int) : (ru l ln x).dP = false := NJ _ _
section
variable {w0 w : World} {F : HP} {l : List oQ} {hv lv : Value} {ln : List Int} {pt : Int}
theorem uI (H : aB w0 w F) (q1 : Jk w0 F 2 hv l.length (l.flatMap lC)) (q2 : gW w0 F .i32 lv ln) (hb : l.length ≤ 5864062014805) (hm : vY l = 0) (hln : ln.length ≤ 1024) :
  fO prog 20 #[.agg #[hv, lv, .int .i64 pt]] w fun v w' => ∃ e, v = .pointer (some ⟨e, 0, none⟩) ∧ aB w0 w' (dw e (ru l ln pt) • F) := by
 refine gB func20 ntmps20 ?_
 dsimp only [bf, Nat.reduceAdd]
 refine ay (ah (jh (iL (l := [_, _, _]) H rfl rfl) ?_))
 rintro _ w1 ⟨b1, rfl, H1⟩
 refine aV rfl (aA (aj (ay (ah (bF 0 underlying49 rfl sizeOf47 rfl (dV underlying47 rfl (H1).get.2 rfl (bZ rfl func39 (vZ H1 (by decide) (fun W HW => q1 _ (HW.right)) hb hm) ?_)))))))
 rintro _ w2 ⟨p2, rfl, H2⟩
 refine aN rfl (AZ rfl rfl (AZ rfl rfl (aV rfl (aV rfl (aA (aj (ay (ay (ah (aN rfl (aX (dU rfl rfl) (aA (aj (aO rfl (fun h => by exfalso; (try simp only [aH] at h); simp at h) (fun h1 => ?_)))))))))))))))
 (try simp only [aH] at h1)
 refine aP (aj (ay (ah (aN rfl (bZ rfl func40 (Dw H2) ?_)))))
 rintro _ w3 ⟨e3, rfl, H3⟩
 refine aN rfl (AZ rfl rfl (AZ rfl rfl (aV rfl (aV rfl (aA (aj (ay (ay (ah (aN rfl (aX (dU rfl rfl) (fK rfl (fun h => by exfalso; (try simp only [aH] at h); simp at h) (fun h2 => ?_)))))))))))))
 (try simp only [aH] at h2)
 refine aZ (aN rfl (aZ (aX (fA underlying26 rfl rfl) (eG rfl rfl (fK rfl (fun h => by exfalso; (try simp only [aH] at h); simp at h) (fun h3 => ?_))))))
 (try simp only [aH] at h3)
 refine aZ (aN rfl (aZ (aN rfl (aZ (bF 1 underlying49 rfl sizeOf22 rfl (aZ (dV underlying22 rfl (H3.f3).get.2 rfl (aZ (bZ rfl func41 (yU H3.f2.f2 (fun W HW => q2 _ (HW.right))) ?_)))))))))
 rintro _ w4 ⟨rfl, H4⟩
 refine aZ (aX (dU rfl rfl) (eG rfl rfl (aA (aj (aO rfl (fun h => by exfalso; (try simp only [aH] at h); have h9 := xW l ln; rw [if_neg (by omega)] at h9; exact h h9) (fun h4 => ?_))))))
 (try simp only [aH] at h4)
 refine aP (aj (ay (ah (aN rfl (bZ rfl func26 (yQ (s := uH l ln) H4) ?_)))))
 rintro _ w5 ⟨rfl, H5⟩
 refine aA (aj (ay (ah (aN rfl (aN rfl (bF 2 underlying49 rfl sizeOf3 rfl (dV underlying3 rfl (H5.f3).get.2 rfl (bZ rfl func42 (Ai H5) ?_))))))))
 rintro _ w6 ⟨rfl, H6⟩
 refine bZ rfl func27 (DJ H6) ?_
 rintro _ w7 ⟨rfl, H7⟩
 refine aA (aj (ay (ah (aN rfl (aV rfl (aA (aj (aJ (aI (.inl rfl) results20 rfl ?_)))))))))
 exact ⟨_, rfl, H7.f2.right.f2.right⟩
theorem GN (H : aB w0 w F) (q1 : Jk w0 F 2 hv l.length (l.flatMap lC)) (q2 : gW w0 F .i32 lv ln) (hb : l.length ≤ 5864062014805) (hm : vY l = 0) (hln : 1024 < ln.length) :
  fO prog 20 #[.agg #[hv, lv, .int .i64 pt]] w fun v w' => v = .pointer none ∧ aB w0 w' F := by
 refine gB func20 ntmps20 ?_
 dsimp only [bf, Nat.reduceAdd]
 refine ay (ah (jh (iL (l := [_, _, _]) H rfl rfl) ?_))
 rintro _ w1 ⟨b1, rfl, H1⟩
 refine aV rfl (aA (aj (ay (ah (bF 0 underlying49 rfl sizeOf47 rfl (dV underlying47 rfl (H1).get.2 rfl (bZ rfl func39 (vZ H1 (by decide) (fun W HW => q1 _ (HW.right)) hb hm) ?_)))))))
 rintro _ w2 ⟨p2, rfl, H2⟩
 refine aN rfl (AZ rfl rfl (AZ rfl rfl (aV rfl (aV rfl (aA (aj (ay (ay (ah (aN rfl (aX (dU rfl rfl) (aA (aj (aO rfl (fun h => by exfalso; (try simp only [aH] at h); simp at h) (fun h1 => ?_)))))))))))))))
 (try simp only [aH] at h1)
 refine aP (aj (ay (ah (aN rfl (bZ rfl func40 (Dw H2) ?_)))))
 rintro _ w3 ⟨e3, rfl, H3⟩
 refine aN rfl (AZ rfl rfl (AZ rfl rfl (aV rfl (aV rfl (aA (aj (ay (ay (ah (aN rfl (aX (dU rfl rfl) (fK rfl (fun h => by exfalso; (try simp only [aH] at h); simp at h) (fun h2 => ?_)))))))))))))
 (try simp only [aH] at h2)
 refine aZ (aN rfl (aZ (aX (fA underlying26 rfl rfl) (eG rfl rfl (fK rfl (fun h => by exfalso; (try simp only [aH] at h); simp at h) (fun h3 => ?_))))))
 (try simp only [aH] at h3)
 refine aZ (aN rfl (aZ (aN rfl (aZ (bF 1 underlying49 rfl sizeOf22 rfl (aZ (dV underlying22 rfl (H3.f3).get.2 rfl (aZ (bZ rfl func41 (yU H3.f2.f2 (fun W HW => q2 _ (HW.right))) ?_)))))))))
 rintro _ w4 ⟨rfl, H4⟩
 refine aZ (aX (dU rfl rfl) (eG rfl rfl (aA (aj (aO rfl (fun h4 => ?_) (fun h => by exfalso; (try simp only [aH] at h); have h9 := xW l ln; rw [if_pos (by omega)] at h9; exact absurd (h9.symm.trans h) (by decide)))))))
 (try simp only [aH] at h4)
 refine ay (ah (aV rfl (aA (aj (aJ (aK (aI (.inl rfl) results20 rfl ?_)))))))
 exact ⟨rfl, H4.right.right.right⟩
end
end Go.Proofs.YtgndbccogcofjaaGreatDoor
end
section
namespace Go.Proofs.YtgndbccogcofjaaGreatDoor
open Go.RowKit
theorem eU {P : Program} {L : List (Nat × Value)} {w : World} {ty t : TypeId} {fs : Array Field} {f : Field} {i : Nat} {x : Operand} {cs : Array Value} {u : Value} (off : Nat) (ht : P.underlying t = some (.struct fs)) (hf : fs[i]? = some f) (ho : f.offset = off) (hp : kN P f.type = true) (hx : ev L x = some (.agg cs)) (hc : cs[off]? = some u) :
    Val P L (.field t x i) ty w u w := fun ρ hρ _ _ _ _ => by
  simp [execOp, hρ _ _ hx, Instr.field, run_underlying ht, hf, part, asAgg, yj hp, ho, hc]
end Go.Proofs.YtgndbccogcofjaaGreatDoor
end
section
namespace Go.Proofs.YtgndbccogcofjaaGreatDoor
open Go.RowKit
open _root_.Go.Proofs.Tryz
def wM : ByteArray := ⟨#[107, 105, 108, 108, 45, 119, 111, 114, 100]⟩
def rQ : ByteArray := ⟨#[98, 97, 99, 107, 119, 97, 114, 100, 45, 107, 105, 108, 108, 45, 119, 111, 114, 100]⟩
def wz : ByteArray := ⟨#[121, 97, 110, 107]⟩
def DR : ByteArray := ⟨#[101, 110, 100, 45, 111, 102, 45, 108, 105, 110, 101]⟩
theorem rU : yC wM = some (.func (.func 71) #[] #[]) := by kernel_rfl
theorem rC : yC rQ = some (.func (.func 72) #[] #[]) := by kernel_rfl
theorem jW : yC wz = some (.func (.func 78) #[] #[]) := by kernel_rfl
theorem yX : yC DR = some (.func (.func 49) #[] #[]) := by kernel_rfl
theorem wB : qE wM 1 = 0 := qY (by rw [rU]; rfl) (by rintro (h | ⟨h | h | h, -⟩); omega; exact absurd h (by rw [ByteArray.toList_eq, ByteArray.toList_eq]; decide); exact absurd h (by rw [ByteArray.toList_eq, ByteArray.toList_eq]; decide); exact absurd h (by rw [ByteArray.toList_eq, ByteArray.toList_eq]; decide))
theorem xX : qE rQ 1 = 0 := qY (by rw [rC]; rfl) (by rintro (h | ⟨h | h | h, -⟩); omega; exact absurd h (by rw [ByteArray.toList_eq, ByteArray.toList_eq]; decide); exact absurd h (by rw [ByteArray.toList_eq, ByteArray.toList_eq]; decide); exact absurd h (by rw [ByteArray.toList_eq, ByteArray.toList_eq]; decide))
theorem jO : qE wz 1 = 0 := qY (by rw [jW]; rfl) (by rintro (h | ⟨h | h | h, -⟩); omega; exact absurd h (by rw [ByteArray.toList_eq, ByteArray.toList_eq]; decide); exact absurd h (by rw [ByteArray.toList_eq, ByteArray.toList_eq]; decide); exact absurd h (by rw [ByteArray.toList_eq, ByteArray.toList_eq]; decide))
theorem En : qE DR 1 = 0 := qY (by rw [yX]; rfl) (by rintro (h | ⟨h | h | h, -⟩); omega; exact absurd h (by rw [ByteArray.toList_eq, ByteArray.toList_eq]; decide); exact absurd h (by rw [ByteArray.toList_eq, ByteArray.toList_eq]; decide); exact absurd h (by rw [ByteArray.toList_eq, ByteArray.toList_eq]; decide))
section
variable {w0 : World} {keys : List Int} {s : bg}
theorem DT (hT : tZ w0) : PL w0 (.func (.func 71) #[] #[]) keys s (s.Kw s.count) (s.I9 s.count) := fun F W c e lv kv H hk => ⟨_, [], [], _, _, rfl, func71, rfl, rfl, Jb hT F W c e lv kv H hk⟩
theorem DU (hT : tZ w0) : PL w0 (.func (.func 72) #[] #[]) keys s (s.Kw (-s.count)) (s.I9 (-s.count)) := fun F W c e lv kv H hk => ⟨_, [], [], _, _, rfl, func72, rfl, rfl, AP hT F W c e lv kv H hk⟩
theorem uJ : PL w0 (.func (.func 78) #[] #[]) keys s s.mV s.ji := fun F W c e lv kv H hk => ⟨_, [], [], _, _, rfl, func78, rfl, rfl, Rn F W c e lv kv H hk⟩
theorem NM : PL w0 (.func (.func 49) #[] #[]) keys s (s.qx s.c.L.length) (s.kZ s.c.L.length) := fun F W c e lv kv H hk => ⟨_, [], [], _, _, rfl, func49, rfl, rfl, Ky F W c e lv kv H hk⟩
end
namespace bg
variable (s : bg)
def pW : Int := (s.aU.I9 s.aU.count).qo (s.aU.Kw s.aU.count)
def iT : bg := (s.aU.I9 s.aU.count).gq (s.aU.Kw s.aU.count)
def lF : Int := (s.aU.I9 (-s.aU.count)).qo (s.aU.Kw (-s.aU.count))
def lG : bg := (s.aU.I9 (-s.aU.count)).gq (s.aU.Kw (-s.aU.count))
def DV : Int := s.aU.ji.qo s.aU.mV
def zK : bg := s.aU.ji.gq s.aU.mV
def Jg : Int := (s.aU.kZ s.aU.c.L.length).qo (s.aU.qx s.aU.c.L.length)
def Jh : bg := (s.aU.kZ s.aU.c.L.length).gq (s.aU.qx s.aU.c.L.length)
end bg
theorem GR (W : World) (sz : Nat) : Rd W sz (.slice none 0 0) 0 [] := ⟨by simp, none, 0, rfl, by omega, by decide, fun h => absurd h (by omega)⟩
def GU : List Int := [102, 111, 111, 32, 98, 97, 114]
def Eo : bg := ru [] GU 3
theorem Ux : Eo.pW = 0 := by kernel_rfl
theorem Uy : Eo.iT.c.L = [102, 111, 111] := by kernel_rfl
theorem Uz : Eo.iT.dP = false := by kernel_rfl
theorem UA : Eo.iT.DV = 0 := by kernel_rfl
theorem UC : Eo.iT.zK.c.L = GU := by kernel_rfl
theorem UD : Eo.iT.zK.c.pt = 7 := by kernel_rfl
theorem UE : (utf8 Eo.iT.c.L).toList = (ByteArray.mk #[102, 111, 111]).toList := by
  rw [Uy]
  exact congrArg ByteArray.toList (by rfl)
theorem UF : (utf8 Eo.iT.zK.c.L).toList = (ByteArray.mk #[102, 111, 111, 32, 98, 97, 114]).toList := by
  rw [UC]
  exact congrArg ByteArray.toList (by rfl)
section
variable {w0 w : World} {F : HP}
theorem AQ {s : ByteArray} {l : List Int} (H : aB w0 w F) (hl : Conv.runesFrom s s.size 0 #[] = (l.map (Value.int .i32)).toArray) (hb : l.length ≤ 70368744177664) :
  fO prog 23 #[.string s] w fun v w' => aB w0 w' (iU 21 .i32 v l • F) := by
 refine gB func23 ntmps23 ?_
 dsimp only [bf, Nat.reduceAdd]
 refine ay (ah (aV rfl (aA (aj (ay (ah (aN rfl (jh (Hf H underlying9 underlying22 underlying21 rfl hl hb) ?_))))))))
 rintro u w1 H1
 refine aV rfl (aA (aj (aJ (aI (.inl rfl) results23 rfl ?_))))
 exact H1
theorem uK (H : aB w0 w F) (hT : tZ w0) : fO prog 10 #[] w fun v w' => v = .bool true ∧ aB w0 w' F := by
 refine gB func10 ntmps10 ?_
 dsimp only [bf, Nat.reduceAdd]
 refine ay (ah (aV rfl (aA (aj (ay (ah (bZ rfl func23 (AQ H (l := GU) (by kernel_rfl) (by decide)) ?_)))))))
 rintro u1 w1 H1
 refine aX (fF (zl := [.slice none 0 0, .slice none 0 0, .int .i64 0]) (pl := [(0, 1), (1, 1), (2, 1)]) [_, _, _] underlying49 zeroValue49 rfl (fun w => by kernel_rfl) rfl (.zero (zs := [.slice none 0 0]) rfl (.one (Rd.one ((H1).aT)) (.one (by first | rfl | assumption) .nil))) rfl) ?_
 refine bZ rfl func20 (uI (l := []) (ln := GU) (pt := 3) H1 (fun W _ => GR W 2) (fun W HW => (HW).aT) (by decide) (by rfl) (by decide)) ?_
 rintro _ w2 ⟨e2, rfl, H2⟩
 refine aV rfl ?_
 have Xa := H2.f2.right
 refine aA (aj (ay (ay (ah (aN rfl (aX (fA underlying26 rfl rfl) (fK rfl (fun h => by exfalso; (try simp only [aH] at h); simp at h) (fun h1 => ?_))))))))
 (try simp only [aH] at h1)
 refine aZ (aN rfl (aZ (jh (gZ (k := .i32) (l := [100]) Xa underlying22 sizeOf21 zeroValue21 rfl rfl rfl (by decide)) ?_)))
 rintro l4 w4 H4
 refine aZ (bZ rfl func11 (iR (s := Eo) (name := wM) (keys := [100]) H4.f2 rfl (fun W HW => (HW).aT) rU wB (DT hT)) ?_)
 rintro _ w5 ⟨rfl, H5⟩
 refine aZ (aX (dU rfl rfl) (eG rfl rfl (fK rfl (fun h => by exfalso; (try simp only [aH] at h); exact h Ux) (fun h2 => ?_))))
 (try simp only [aH] at h2)
 refine aZ (aN rfl (aZ (bZ rfl func21 (dW H5) ?_)))
 rintro _ w6 ⟨u6, rfl, H6⟩
 refine aZ (aX (eU 0 underlying53 rfl rfl (dK underlying22 rfl) rfl rfl) (aZ (aX (zT underlying22 underlying9 underlying21 rfl ((H6).aT)) (aZ (aX (MB rfl rfl) (eG rfl rfl (aA (aj (aO rfl (fun h => by exfalso; (try simp only [aH] at h); exact h UE) (fun h3 => ?_))))))))))
 (try simp only [aH] at h3)
 refine aP (aj (ay (ah (aN rfl (jh (gZ (k := .i32) (l := [121]) H6 underlying22 sizeOf21 zeroValue21 rfl rfl rfl (by decide)) ?_)))))
 rintro l7 w7 H7
 refine bZ rfl func11 (iR (s := Eo.iT) (name := wz) (keys := [121]) H7.f3 Uz (fun W HW => (HW).aT) jW jO uJ) ?_
 rintro _ w8 ⟨rfl, H8⟩
 refine aX (dO rfl rfl) (fK rfl (fun h4 => ?_) (fun h => by exfalso; (try simp only [aH] at h); exact h UA))
 (try simp only [aH] at h4)
 refine aZ (aN rfl (aZ (bZ rfl func21 (dW H8) ?_)))
 rintro _ w9 ⟨u9, rfl, H9⟩
 refine aZ (aX (eU 0 underlying53 rfl rfl (dK underlying22 rfl) rfl rfl) (aZ (aX (zT underlying22 underlying9 underlying21 rfl ((H9).aT)) (aZ (aX (wH rfl rfl) (fG rfl rfl (fK rfl (fun h5 => ?_) (fun h => by exfalso; (try simp only [aH] at h); exact h UF))))))))
 (try simp only [aH] at h5)
 refine aZ (aN rfl (aZ (bZ rfl func21 (dW H9.f2) ?_)))
 rintro _ w10 ⟨u10, rfl, nO⟩
 refine aZ (aX (eU 1 underlying53 rfl rfl (dK underlying3 rfl) rfl rfl) (aZ ?_))
 refine aX (wF (dO rfl rfl) (by exact beq_iff_eq.2 UD)) ?_
 refine fG rfl rfl (aV rfl (aA (aj (aJ (aI (.inl rfl) results10 rfl ?_)))))
 exact ⟨rfl, nO.right.right.right.right.right.right⟩
end
end Go.Proofs.YtgndbccogcofjaaGreatDoor
end
section
namespace Go.Proofs.YtgndbccogcofjaaGreatDoor
open Go.RowKit
theorem Fj {n x : Nat} (h : x ≤ n) : lJ n (x : Int) = x := by unfold lJ; omega
theorem LY {g : Int → Bool} {l : List Int} {x : Nat} (h : x < l.length) (hg : g (l.getD x 0) = true) : x < uP g l x := by
  unfold uP
  rw [List.drop_eq_getElem_cons h, List.takeWhile_cons_of_pos (by rwa [List.getD_eq_getElem?_getD, List.getElem?_eq_getElem h] at hg)]
  simp
theorem LZ {g : Int → Bool} {l : List Int} {x : Nat} (h : x ≤ l.length) (h0 : 0 < x) (hg : g (l.getD (x - 1) 0) = true) : uQ g l x < x := by
  obtain ⟨y, rfl⟩ : ∃ y, x = y + 1 := ⟨x - 1, by omega⟩
  have hy : y < l.length := by omega
  unfold uQ
  rw [show l.take (y + 1) = l.take y ++ [l[y]] from by simp, List.reverse_append, List.reverse_singleton, List.singleton_append, List.takeWhile_cons_of_pos (by simpa [List.getD_eq_getElem?_getD, List.getElem?_eq_getElem hy] using hg)]
  simp only [List.length_cons]
  omega
theorem RF {l : List Int} {x : Nat} (h : x ≤ l.length) : qg l x ≤ l.length ∧ (x < l.length → x < qg l x) := by
  unfold qg
  rw [Fj h]
  have h1 := FQ (fun r => !bH r) l h
  have h2 := FQ bH l h1.2
  refine ⟨h2.2, fun hx => ?_⟩
  by_cases hl : bH (l.getD x 0) = true
  · have e : uP (fun r => !bH r) l x = x := FP (Nat.le_refl _) h (fun j a b => by omega) (.inr (by show (!bH (l.getD x 0)) = false; rw [hl]; rfl))
    rw [e]; exact LY hx hl
  · have := LY (g := fun r => !bH r) hx (by show (!bH (l.getD x 0)) = true; rw [Bool.eq_false_iff.2 hl]; rfl)
    omega
theorem NQ {l : List Int} {x : Nat} (h : x ≤ l.length) : lM l x ≤ x ∧ (0 < x → lM l x < x) := by
  unfold lM
  rw [Fj h]
  have h1 := FT (fun r => !bH r) l x
  have h2 := FT bH l (uQ (fun r => !bH r) l x)
  refine ⟨by omega, fun hx => ?_⟩
  by_cases hl : bH (l.getD (x - 1) 0) = true
  · have e : uQ (fun r => !bH r) l x = x := back_eq (Nat.le_refl _) h (fun j a b => by omega) (.inr (by show (!bH (l.getD (x - 1) 0)) = false; rw [hl]; rfl))
    rw [e]; exact LZ h hx hl
  · have := LZ (g := fun r => !bH r) h hx (by show (!bH (l.getD (x - 1) 0)) = true; rw [Bool.eq_false_iff.2 hl]; rfl)
    omega
theorem Ji (g : List Int → Int → Int) (l : List Int) (x : Int) : uU g l 1 x = g l x := by
  show (if g l x = x then x else g l x) = _
  split
  · rename_i h; exact h.symm
  · rfl
theorem KD (l : List Int) (p : Int) : qC l p 1 = LK l p := by unfold qC; rw [if_pos (by decide)]; exact Ji _ _ _
theorem KE (l : List Int) (p : Int) : qC l p (-1) = Bg l p := by unfold qC; rw [if_neg (by decide)]; exact Ji _ _ _
section
variable {s : bg} {A : List Int} {a b : Int} {k : Nat}
theorem RG (s : bg) (x : dX) : (s.lD x).argues = s.argues := by unfold bg.lD; split; rfl; split <;> rfl
theorem RH (s : bg) (i j : Int) (l : List Int) : (s.jf i j l).argues = s.argues := by unfold bg.jf; split; exact RG _ _; rfl
theorem RI (s : bg) (i j : Int) (b : Bool) : (s.kC i j b).argues = s.argues := by unfold bg.kC; split <;> rfl
theorem L6 (s : bg) (i j : Int) (b : Bool) : (s.nR i j b).argues = s.argues := by unfold bg.nR; split; exact (RH _ _ _ _).trans (RI _ _ _ _); rfl
theorem xY (u : bg) (h : u.dP = true) (h2 : u.argues = false) : (u.gq 0).given = false := by by_cases hp : u.put = [] <;> by_cases hc : u.cls = 2 <;> simp [bg.gq, bg.iW, bg.dZ, bg.dJ, bg.qW, bg.jU, bg.iO, bg.here, fD, hp, hc, h, h2]
theorem uM (h : s.dP = false) : s.aU.argues = false := by rw [tq h]
theorem Am (h : s.dP = false) (hg : s.given = false) : s.aU.count = 1 := by rw [tq h]; unfold bg.count; rw [if_neg (by rw [show ({ s with dP := true, was := s.c, cls := 0, killed := false, jX := false, argues := false, whole := true, put := [] } : bg).given = s.given from rfl, hg]; decide)]
theorem P5 (h : s.dP = false) : (s.aU.gq 6).c.L = s.c.L := by
  unfold bg.gq; rw [if_pos (gU s), if_neg (by decide)]
  unfold bg.aU bg.uz; rw [if_neg (by rw [h]; decide)]
theorem P6 (h : s.dP = true) {i j : Int} {back : Bool} (hi : 0 ≤ i ∧ i ≤ j ∧ j ≤ s.c.L.length) (hL : s.c.L.length ≤ 1024) (hk : (s.ku i j back).1 = 0) : s.ES i j back = 0 := by
  have hc : s.kK i j back = 0 := by
    unfold bg.kK
    rw [if_pos h, if_neg (by unfold bg.jL; omega), hk]
  have hE : iY s.c.L i j [] = 0 := by unfold iY; rw [if_neg (by omega), if_neg (by simp; omega)]
  unfold bg.ES
  rw [if_pos hc]
  have e : s.kC i j back = { s.yN (s.ku i j back).2.1 (s.ku i j back).2.2 with killed := true, cls := 1 } := by unfold bg.kC; rw [if_pos hc]
  have ei : (s.kC i j back).dP = true := by rw [e]; exact h
  unfold bg.jY
  rw [if_pos ei, show (s.kC i j back).c.L = s.c.L from by rw [e]; rfl, hE]
def KW (back : Bool) (A : List Int) (k : Nat) (s : bg) : Prop := ∃ a b : Int, wU s A a b ∧ s.given = false ∧ (k : Int) ≤ b - a ∧ (if back = true then b = A.length else a = 0) ∧ (A = [] → s.c.E = [])
theorem KW.dP {back : Bool} (h : KW back A k s) : s.dP = false := let ⟨_, _, h, _⟩ := h; h.dP
theorem KW.all {back : Bool} (h : KW back A k s) (hk : A.length ≤ k) : s.c.L = [] := by
  obtain ⟨a, b, h, -, h2, -⟩ := h
  have := h.len; have := h.ok
  exact List.length_eq_zero_iff.1 (by omega)
theorem L8 {i j : Int} (hi : 0 ≤ i ∧ i ≤ j ∧ j ≤ s.c.L.length) : ((s.aU.cut i j).length : Int) = j - i := by
  unfold bg.cut
  rw [dD]
  simp; omega
theorem KW.fwd (h : KW false A k s) (hA : A.length ≤ 1024) : (s.pW = 0 ∧ KW false A (k + 1) s.iT) ∨ (s.pW ≠ 0 ∧ s.iT.c.L = []) := by
  obtain ⟨a, b, h, hg, hk, ha, hz⟩ := h
  simp only [Bool.false_eq_true, if_false] at ha
  subst ha
  have hi := gU s
  have hlen := h.len
  have hok := h.ok
  have hpt := h.pt
  unfold bg.pW bg.iT bg.Kw bg.I9
  rw [Am h.dP hg, if_neg (by decide), if_neg (by decide), KD, dD, h.pt]
  have hb := RF (l := s.c.L) (x := 0) (by omega)
  unfold LK
  simp only [Int.natCast_zero] at hb
  by_cases hL : s.c.L = []
  · right
    rw [hL] at hb
    simp only [List.length_nil] at hb
    have e : ((qg s.c.L 0 : Nat) : Int) ≤ 0 := by rw [hL]; omega
    unfold bg.Rl bg.PG
    rw [if_pos e, if_pos e]
    refine ⟨?_, (P5 h.dP).trans hL⟩
    unfold bg.qo; rw [if_pos hi]; decide
  · left
    have hl : 0 < s.c.L.length := List.length_pos_iff.2 hL
    have hm := hb.2 (by simpa using hl)
    generalize qg s.c.L 0 = m at hb hm
    have hm1 : 0 < m := by simpa using hm
    have e : ¬ ((m : Nat) : Int) ≤ 0 := by omega
    unfold bg.Rl bg.PG
    rw [if_neg e, if_neg e]
    have hq := h.fwd hA (k := m) (by omega)
    rw [dD, h.pt, Int.zero_add] at hq
    have hkk := (xU h hA (i := 0) (j := m) (back := false) rfl (by rw [L8 (by omega)]; omega)).1
    have hE := P6 hi (i := 0) (j := m) (back := false) (by rw [dD]; omega) (by rw [dD]; omega) hkk
    have hc := KC (s := s.aU) hi (i := 0) (j := m) (back := false) (by rw [dD]; omega) (by rw [dD]; omega) hkk (by rw [dD, h.pt]; omega)
    rw [hE]
    refine ⟨by unfold bg.qo; rw [if_pos hc.2.2.2.2.1], 0, b + m, hq, xY _ hc.2.2.2.2.1 ((L6 _ _ _ _).trans (uM h.dP)), by omega, by simp, fun hA0 => ?_⟩
    have h9 : A.length = 0 := by rw [hA0]; rfl
    omega
theorem KW.back (h : KW true A k s) (hA : A.length ≤ 1024) : (s.lF = 0 ∧ KW true A (k + 1) s.lG) ∨ (s.lF ≠ 0 ∧ s.lG.c.L = []) := by
  obtain ⟨a, b, h, hg, hk, hb0, hz⟩ := h
  simp only [if_true] at hb0
  subst hb0
  have hi := gU s
  have hlen := h.len
  have hok := h.ok
  have hpt := h.pt
  obtain ⟨x, hx⟩ : ∃ x : Nat, a = x := ⟨a.toNat, by omega⟩
  subst hx
  unfold bg.lF bg.lG bg.Kw bg.I9
  rw [Am h.dP hg, if_pos (by decide), if_pos (by decide), KE, dD, h.pt]
  have hb := NQ (l := s.c.L) (x := x) (by omega)
  unfold Bg
  by_cases hL : x = 0
  · right
    have e : ((x : Nat) : Int) ≤ ((lM s.c.L (x : Int) : Nat) : Int) := by omega
    unfold bg.Rl bg.PG
    rw [if_pos e, if_pos e]
    refine ⟨?_, (P5 h.dP).trans (List.length_eq_zero_iff.1 (by omega))⟩
    unfold bg.qo; rw [if_pos hi]; decide
  · left
    have hm := hb.2 (by omega)
    generalize lM s.c.L (x : Int) = m at hb hm
    have e : ¬ ((x : Nat) : Int) ≤ ((m : Nat) : Int) := by omega
    unfold bg.Rl bg.PG
    rw [if_neg e, if_neg e]
    have hq := h.back hA (k := x - m) (by omega)
    rw [dD, h.pt, show (x : Int) - (x - m) = m from by omega] at hq
    have hkk := (xU h hA (i := m) (j := x) (back := true) rfl (by rw [L8 (by omega)]; omega)).1
    have hE := P6 hi (i := m) (j := x) (back := true) (by rw [dD]; omega) (by rw [dD]; omega) hkk
    have hc := KC (s := s.aU) hi (i := m) (j := x) (back := true) (by rw [dD]; omega) (by rw [dD]; omega) hkk (by rw [dD, h.pt]; omega)
    rw [hE]
    refine ⟨by unfold bg.qo; rw [if_pos hc.2.2.2.2.1], m, A.length, hq, xY _ hc.2.2.2.2.1 ((L6 _ _ _ _).trans (uM h.dP)), by omega, by simp, fun hA0 => ?_⟩
    have h9 : A.length = 0 := by rw [hA0]; rfl
    omega
theorem P7 (h : s.dP = true) (l : List Int) : (s.qp l).dP = true := (Bh h s.c.pt s.c.pt l).2.2.2.2.2.1
theorem NR (h : s.dP = true) : s.ji.dP = true := by
  unfold bg.ji
  split
  · exact P7 h _
  · exact h
theorem KW.SY {back : Bool} (h : KW back A k s) (hA : A.length ≤ 1024) (hk : 0 < k) : s.DV = 0 ∧ s.zK.c.L = A := by
  obtain ⟨a, b, h, -, h2, -⟩ := h
  obtain ⟨h3, h4, -⟩ := (h.ZJ hA).2 (by omega)
  refine ⟨?_, h4⟩
  unfold bg.DV bg.qo
  rw [if_pos (NR (gU s)), h3]
theorem P8 (s : bg) (i j : Int) (b : Bool) (h : s.dP = true) : (s.nR i j b).dP = true := by
  have hc : (s.kC i j b).dP = true := by unfold bg.kC; split <;> exact h
  unfold bg.nR
  split
  · exact (Bh hc i j []).2.2.2.2.2.1
  · exact h
theorem RJ (s : bg) (i j : Int) (b : Bool) (h : s.dP = true) : (s.PG i j b).dP = true := by unfold bg.PG; split; exact h; exact P8 _ _ _ _ h
theorem L9 (s : bg) (n : Int) (h : s.dP = true) : (s.I9 n).dP = true := by unfold bg.I9; split <;> exact RJ _ _ _ _ h
theorem Ep (s : bg) : s.iT.dP = false := wu (L9 _ _ (gU s)) _
theorem yY (s : bg) : s.lG.dP = false := wu (L9 _ _ (gU s)) _
end
section
variable {L : List Int}
theorem start_eq (hA : L.length ≤ 1024) : uH [] L = (bg.new (Fa []) (Fb []) 4096).start (Fa []) (Fb []) 4096 L := by
  unfold uH bg.GI; rw [if_pos (by rw [xW, if_neg (by omega)])]
theorem zL {s : bg} {x a : Int} (hi0 : s.dP = false) (hg : s.given = false) (hL : s.c.L = L) (hE : s.c.E = []) (hx : Si L.length a = 0) (h : 0 ≤ a ∧ a ≤ L.length) : wU ((s.aU.kZ a).gq 0) L a a ∧ ((s.aU.kZ a).gq 0).given = false ∧ ((s.aU.kZ a).gq 0).c.E = [] := by
  have hi := gU s
  have hm : s.aU.kZ a = s.aU.iJ L a s.aU.c.mark := by
    unfold bg.kZ
    rw [if_pos hi, dD, hL]
    unfold QF; rw [if_pos h]
  rw [hm]
  have hi2 : (s.aU.iJ L a s.aU.c.mark).dP = true := hi
  have hE2 : ((s.aU.iJ L a s.aU.c.mark).gq 0).c.E = [] := (PY _ hi2).trans (by show s.aU.c.E = []; rw [dD]; exact hE)
  refine ⟨⟨wo _ hi2, by omega, (zJ _ hi2).trans (by show L = _; rw [List.take_append_drop]), yV _ hi2, .inl ⟨hE2, rfl⟩⟩, xY _ hi2 (uM hi0), hE2⟩
theorem Fp {n : Nat} {a : Int} (h : 0 ≤ a ∧ a ≤ n) : Si n a = 0 := by unfold Si; rw [if_pos h]
theorem P9 (hA : L.length ≤ 1024) : KW false L 0 (ru [] L 0) := by
  have e : (uH [] L).aU.qx 0 = 0 := by
    unfold bg.qx; rw [if_pos (gU _), dD, start_eq hA]; exact Fp (by show (0:Int) ≤ 0 ∧ (0 : Int) ≤ ((L.length : Nat) : Int); omega)
  have h := zL (s := uH [] L) (L := L) (x := 0) (a := 0) (by rw [start_eq hA]; rfl) (by rw [start_eq hA]; rfl) (by rw [start_eq hA]; rfl) (by rw [start_eq hA]; rfl) (Fp (by omega)) (by omega)
  unfold ru bg.LX
  rw [e]
  exact ⟨0, 0, h.1, h.2.1, by omega, by simp, fun _ => h.2.2⟩
theorem RN (hA : L.length ≤ 1024) : (ru [] L 0).Jg = 0 ∧ KW true L 0 (ru [] L 0).Jh := by
  obtain ⟨a, b, h, hg, h2, h3, h4⟩ := P9 hA
  simp only [Bool.false_eq_true, if_false] at h3
  subst h3
  have e0 : (uH [] L).aU.qx 0 = 0 := by
    unfold bg.qx; rw [if_pos (gU _), dD, start_eq hA]; exact Fp (by show (0:Int) ≤ 0 ∧ (0 : Int) ≤ ((L.length : Nat) : Int); omega)
  have h0 := zL (s := uH [] L) (L := L) (x := 0) (a := 0) (by rw [start_eq hA]; rfl) (by rw [start_eq hA]; rfl) (by rw [start_eq hA]; rfl) (by rw [start_eq hA]; rfl) (Fp (by omega)) (by omega)
  have hs : ru [] L 0 = (((uH [] L).aU.kZ 0).gq 0) := by unfold ru bg.LX; rw [e0]
  have hl : (ru [] L 0).c.L = L := by rw [hs, h0.1.L]; simp
  have e : (ru [] L 0).aU.qx (ru [] L 0).aU.c.L.length = 0 := by
    unfold bg.qx; rw [if_pos (gU _)]; exact Fp (by omega)
  have h5 := zL (s := ru [] L 0) (L := L) (x := 0) (a := L.length) h.dP hg hl (by rw [hs]; exact h0.2.2) (Fp (by omega)) (by omega)
  unfold bg.Jg bg.Jh
  rw [e, dD, hl]
  refine ⟨?_, L.length, L.length, h5.1, h5.2.1, by omega, by simp, fun _ => h5.2.2⟩
  unfold bg.qo
  rw [if_pos (by unfold bg.kZ; rw [if_pos (gU _)]; exact gU _)]
end
end Go.Proofs.YtgndbccogcofjaaGreatDoor
end
section
namespace Go.Proofs.YtgndbccogcofjaaGreatDoor
open Go.RowKit
open _root_.Go.Proofs.Tryz
section
variable {P : Program} {L : List (Nat × Value)} {w : World} {x y : Operand} {ty t t' : TypeId} {m n : Int}
theorem Qa (hx : ev L x = some (.int .u8 m)) (hy : ev L y = some (.int .u8 n)) (hb : 0 ≤ m + n ∧ m + n ≤ 255) : Val P L (.binOp .add t x y t') ty w (.int .u8 (m + n)) w := by
  have h := Tq (P := P) (L := L) (w := w) (ty := ty) (t := t) (t' := t') hx hy
  rwa [TA (by omega)] at h
end
theorem AU {w : World} {lv : Value} {line : List Int} {many : Int} (hT : tZ w) (g : kD w .i32 lv line) (hl : line.length ≤ 1024) (hm : 0 ≤ many ∧ many < 256) :
  fO prog 8 #[lv, .int .u8 many, .bool false] w fun v w' => v = .bool true ∧ Below w.heap.size w w' := by
 obtain ⟨F, H⟩ : ∃ F, aB w w F := ⟨_, aB.start w⟩
 have hv : gW w F .i32 lv line := gW.yw g F
 have hr : 0 ≤ many % 9 ∧ many % 9 < 9 := by omega
 refine gB func8 ntmps8 ?_
 dsimp only [bf, Nat.reduceAdd]
 refine ay (ah (aV rfl (aA (aj (ay (ah (aN rfl (aX (fF (zl := [.slice none 0 0, .slice none 0 0, .int .i64 0]) (pl := [(0, 1), (1, 1), (2, 1)]) [_, _, _] underlying49 zeroValue49 rfl (fun w => by kernel_rfl) rfl (.zero (zs := [.slice none 0 0]) rfl (.one (Rd.one (hv _ (H))) (.zero (zs := [.int .i64 0]) rfl .nil))) rfl) (bZ rfl func20 (uI (l := []) (ln := line) (pt := 0) H (fun W _ => GR W 2) (fun W HW => hv _ (HW)) (by decide) (by rfl) hl) ?_)))))))))
 rintro _ w1 ⟨e1, rfl, H1⟩
 refine aV rfl (aA (aj (ay (ay (ah (bZ rfl func10 (uK H1 hT) ?_))))))
 rintro _ w2 ⟨rfl, H2⟩
 refine aX (kF rfl) (fK rfl (fun h => by exfalso; (try simp only [aH] at h); simp at h) (fun h1 => ?_))
 (try simp only [aH] at h1)
 refine aZ (aN rfl (aZ (aX (fA underlying26 rfl rfl) (aZ (aN rfl (aZ (aX (jr (hv _ (H2.right)) underlying22 rfl) (aZ (aX (dn rfl rfl) (aZ (aX (xC underlying4 rfl rfl) (eG rfl rfl (aA (aj (aO rfl (fun h => by exfalso; (try simp only [aH] at h); simp at h; omega) (fun h2 => ?_))))))))))))))))
 (try simp only [aH] at h2)
 refine aP (aj (ay (ay (ah (aN rfl (aX (fA underlying26 rfl rfl) (aA (aj (aO rfl (fun h => by exfalso; (try simp only [aH] at h); simp at h) (fun h3 => ?_))))))))))
 (try simp only [aH] at h3)
 refine aP (aj (ay (ah (aV rfl (aA (aj (ay (ay (ah (aN rfl (aA (aj (nN (aP (aj (ay (ah (aV rfl (aA (aj (ay (ay (ah (aN rfl ?_))))))))))))))))))))))))
 refine aX (zO rfl rfl (by omega) (by  omega)) ?_
 refine aN rfl (aA (aj (bC ?_)))
 refine iw [(0, _), (1, _), (7, _), (8, _), (30, _)] (fun (k : Nat) => [(31, .int .u8 (k : Int)), (9, .int .i64 (k : Int))]) (fun (k : Nat) W => (k : Int) ≤ many % 9 ∧ ∃ s, KW false line k s ∧ aB w W (dw e1 s • F)) (fun (k : Nat) => (many % 9).toNat - k) (0) (Sub.cons rfl (Sub.cons rfl (Sub.cons rfl (Sub.cons rfl (Sub.cons rfl (Sub.nil _)))))) (Sub.cons rfl (Sub.cons rfl (Sub.nil _))) ⟨by omega, _, P9 hl, H2⟩ ?_
 rintro k w3 ⟨hk, s, hs, HL⟩
 dsimp only [List.cons_append, List.nil_append]
 refine ay (ah (aX (eu rfl rfl) (aA (aj (ay (aO rfl (fun h4 => ?_) (fun h4 => ?_)))))))
 ·(try simp only [aH] at h4)
  have hkl := h4
  refine aP (aj (ay (bC (ay (ah (aN rfl (aN rfl (jh (gZ (k := .i32) (l := [100]) HL underlying22 sizeOf21 zeroValue21 rfl rfl rfl (by decide)) ?_))))))))
  rintro l4 w4 H4
  refine bZ rfl func11 (iR (s := s) (keys := [100]) (name := wM) H4.f2 hs.dP (fun W HW => (HW).aT) rU wB (DT hT)) ?_
  rintro _ w5 ⟨rfl, H5⟩
  have hst := hs.fwd hl
  have hin2 := Ep s
  refine aX (dO rfl rfl) (aA (aj (aO rfl (fun h5 => ?_) (fun h5 => ?_))))
  ·(try simp only [aH] at h5)
   have hok : s.pW = 0 := h5
   have hs1 := (hst.resolve_right (fun c => c.1 hok)).2
   refine ah (aN rfl (aX (gy rfl rfl (by omega)) (aV rfl (aA (aQ (aj (ah (aX (Qa rfl rfl (by omega)) (aN rfl (aA ?_))))))))))
   refine fE (k + 1) ?_ ?_ ?_ ?_
   ·exact (Sub.cons rfl (Sub.cons rfl (Sub.nil _)))
   ·exact (Sub.cons rfl (Sub.cons rfl (Sub.cons rfl (Sub.cons rfl (Sub.cons rfl (Sub.nil _))))))
   ·(try dsimp only)
    first | done | exact ⟨by omega, _, hs1, H5.f2.right⟩
   ·(try dsimp only); omega
  ·(try simp only [aH] at h5)
   have hbr : s.pW ≠ 0 := h5
   have hL0 : s.iT.c.L = [] := (hst.resolve_left (fun c => hbr c.1)).2
   have hL9 : ((((s.aU.I9 s.aU.count).gq (s.aU.Kw s.aU.count)).c.L.length : Nat) : Int) = 0 := by
    have h9 := congrArg List.length hL0
    exact Int.natCast_eq_zero.2 h9
   refine eX ?_
   refine oz (by decide) ?_
   refine aY (aY (bU (aj (ay (ay (ah (aN rfl (aX (dO rfl rfl) (fK rfl (fun h6 => ?_) (fun h6 => ?_))))))))))
   ·(try simp only [aH] at h6)
    refine bD (bD (bD (bD (bD (bD (jq (jq (jq (jq (jq (bD (fG rfl rfl (aA (aj (uX (ay (ah (aV rfl (aA (aj (aJ (aK (aI (.inl rfl) results8 rfl ?_)))))))))))))))))))))))
    exact ⟨rfl, H5.base⟩
   ·(try simp only [aH] at h6)
    refine aZ (aN rfl (aZ (bZ rfl func21 (dW H5) ?_)))
    rintro _ w6 ⟨u6, rfl, H6⟩
    refine aZ (aX (eU 0 underlying53 rfl rfl (dK underlying22 rfl) rfl rfl) (aZ (aX (jr ((H6).aT) underlying22 rfl) (aZ (aX (dO rfl rfl) (aZ (fK rfl (fun h7 => ?_) (fun h7 => ?_))))))))
    ·(try simp only [aH] at h7)
     refine aZ (aN rfl (aZ (aN rfl (aZ ?_))))
     refine aX (zO rfl rfl (by omega) (by  omega)) ?_
     refine aZ ?_
     refine aX (tV rfl (by rw [underlying5]; rfl) underlying3 (A8 (by omega))) ?_
     refine aZ (aX (eu rfl rfl) (aZ (fG rfl rfl (eG rfl rfl (aA (aj (aO rfl (fun h8 => ?_) (fun h8 => ?_))))))))
     ·(try simp only [aH] at h8)
      refine ay (ah (aV rfl (aA (aj (aJ (aK (aI (.inl rfl) results8 rfl ?_)))))))
      exact ⟨rfl, H6.base⟩
     ·(try simp only [aH] at h8)
      refine aP (aj (ay (ah (aN rfl (jh (gZ (k := .i32) (l := [121]) H6 underlying22 sizeOf21 zeroValue21 rfl rfl rfl (by decide)) ?_)))))
      rintro l7 w7 H7
      refine bZ rfl func11 (iR (keys := [121]) (name := wz) H7.f3 hin2 (fun W HW => (HW).aT) jW jO uJ) ?_
      rintro _ w8 ⟨rfl, H8⟩
      refine aX (dO rfl rfl) (fK rfl (fun h9 => ?_) (fun h => by exfalso; (try simp only [aH] at h); exact h (by first | (exfalso; omega) | exact (hlast (by omega)).1)))
      (try simp only [aH] at h9)
      refine aZ (aN rfl (aZ (bZ rfl func21 (dW H8) ?_)))
      rintro _ w9 ⟨u9, rfl, H9⟩
      refine aZ (aX (eU 0 underlying53 rfl rfl (dK underlying22 rfl) rfl rfl) (aZ (aN rfl (aZ (bZ rfl func22 (iE _ _ _ _ _ ((H9).aT) (hv _ (H9.right.right.right.right.right))) ?_)))))
      rintro _ w10 ⟨rfl, ZK⟩
      have ZL := H9.kV ZK
      refine fG rfl rfl (aV rfl (aA (aj (aJ (aI (.inl rfl) results8 rfl ?_)))))
      exact ⟨congrArg Value.bool (by first | (exfalso; omega) | exact beq_iff_eq.2 (hlast (by omega)).2), ZL.base⟩
    ·(try simp only [aH] at h7)
     refine bD (bD (bD (bD (bD (aZ (eG rfl rfl (eG rfl rfl (aA (aj (nN (aP (aj (ay (ah (aN rfl (jh (gZ (k := .i32) (l := [121]) H6 underlying22 sizeOf21 zeroValue21 rfl rfl rfl (by decide)) ?_))))))))))))))))
     rintro l11 Hz vk
     refine bZ rfl func11 (iR (keys := [121]) (name := wz) vk.f3 hin2 (fun W HW => (HW).aT) jW jO uJ) ?_
     rintro _ w12 ⟨rfl, wP⟩
     refine aX (dO rfl rfl) (fK rfl (fun h10 => ?_) (fun h => by exfalso; (try simp only [aH] at h); exact h (by first | (exfalso; omega) | exact (hlast (by omega)).1)))
     (try simp only [aH] at h10)
     refine aZ (aN rfl (aZ (bZ rfl func21 (dW wP) ?_)))
     rintro _ MN ⟨u13, rfl, uO⟩
     refine aZ (aX (eU 0 underlying53 rfl rfl (dK underlying22 rfl) rfl rfl) (aZ (aN rfl (aZ (bZ rfl func22 (iE _ _ _ _ _ ((uO).aT) (hv _ (uO.right.right.right.right.right))) ?_)))))
     rintro _ Jw ⟨rfl, ZM⟩
     have ZN := uO.kV ZM
     refine fG rfl rfl (aV rfl (aA (aj (aJ (aI (.inl rfl) results8 rfl ?_)))))
     exact ⟨congrArg Value.bool (by first | (exfalso; omega) | exact beq_iff_eq.2 (hlast (by omega)).2), ZN.base⟩
 ·(try simp only [aH] at h4)
  have hin2 := hs.dP
  have hlast : ∀ _ : 0 < k, s.DV = 0 ∧ s.zK.c.L = line := fun h9 => hs.SY hl h9
  refine eX (aY (aY (bU (aj (ay (ay (ah (aN rfl (aX (dO rfl rfl) (fK rfl (fun h11 => ?_) (fun h11 => ?_)))))))))))
  ·(try simp only [aH] at h11)
   refine bD (bD (bD (bD (bD (bD (jq (jq (jq (jq (jq (bD (fG rfl rfl (aA (aj (uX (ay (ah (aV rfl (aA (aj (aJ (aK (aI (.inl rfl) results8 rfl ?_)))))))))))))))))))))))
   exact ⟨rfl, HL.base⟩
  ·(try simp only [aH] at h11)
   refine aZ (aN rfl (aZ (bZ rfl func21 (dW HL) ?_)))
   rintro _ MO ⟨u15, rfl, uf⟩
   refine aZ (aX (eU 0 underlying53 rfl rfl (dK underlying22 rfl) rfl rfl) (aZ (aX (jr ((uf).aT) underlying22 rfl) (aZ (aX (dO rfl rfl) (aZ (fK rfl (fun h12 => ?_) (fun h12 => ?_))))))))
   ·(try simp only [aH] at h12)
    refine aZ (aN rfl (aZ (aN rfl (aZ ?_))))
    refine aX (zO rfl rfl (by omega) (by  omega)) ?_
    refine aZ ?_
    refine aX (tV rfl (by rw [underlying5]; rfl) underlying3 (A8 (by omega))) ?_
    refine aZ (aX (eu rfl rfl) (aZ (fG rfl rfl (eG rfl rfl (aA (aj (aO rfl (fun h13 => ?_) (fun h13 => ?_))))))))
    ·(try simp only [aH] at h13)
     refine ay (ah (aV rfl (aA (aj (aJ (aK (aI (.inl rfl) results8 rfl ?_)))))))
     exact ⟨rfl, uf.base⟩
    ·(try simp only [aH] at h13)
     refine aP (aj (ay (ah (aN rfl (jh (gZ (k := .i32) (l := [121]) uf underlying22 sizeOf21 zeroValue21 rfl rfl rfl (by decide)) ?_)))))
     rintro X7 w16 rZ
     refine bZ rfl func11 (iR (keys := [121]) (name := wz) rZ.f3 hin2 (fun W HW => (HW).aT) jW jO uJ) ?_
     rintro _ RX ⟨rfl, Ac⟩
     refine aX (dO rfl rfl) (fK rfl (fun h14 => ?_) (fun h => by exfalso; (try simp only [aH] at h); exact h (by first | (exfalso; omega) | exact (hlast (by omega)).1)))
     (try simp only [aH] at h14)
     refine aZ (aN rfl (aZ (bZ rfl func21 (dW Ac) ?_)))
     rintro _ Qc ⟨u18, rfl, zY⟩
     refine aZ (aX (eU 0 underlying53 rfl rfl (dK underlying22 rfl) rfl rfl) (aZ (aN rfl (aZ (bZ rfl func22 (iE _ _ _ _ _ ((zY).aT) (hv _ (zY.right.right.right.right))) ?_)))))
     rintro _ Qe ⟨rfl, ZO⟩
     have ZP := zY.kV ZO
     refine fG rfl rfl (aV rfl (aA (aj (aJ (aI (.inl rfl) results8 rfl ?_)))))
     exact ⟨congrArg Value.bool (by first | (exfalso; omega) | exact beq_iff_eq.2 (hlast (by omega)).2), ZP.base⟩
   ·(try simp only [aH] at h12)
    refine bD (bD (bD (bD (bD (aZ (eG rfl rfl (eG rfl rfl (aA (aj (nN (aP (aj (ay (ah (aN rfl (jh (gZ (k := .i32) (l := [121]) uf underlying22 sizeOf21 zeroValue21 rfl rfl rfl (by decide)) ?_))))))))))))))))
    rintro Xm Qd uZ
    refine bZ rfl func11 (iR (keys := [121]) (name := wz) uZ.f3 hin2 (fun W HW => (HW).aT) jW jO uJ) ?_
    rintro _ QC ⟨rfl, oN⟩
    refine aX (dO rfl rfl) (fK rfl (fun h15 => ?_) (fun h => by exfalso; (try simp only [aH] at h); exact h (by first | (exfalso; omega) | exact (hlast (by omega)).1)))
    (try simp only [aH] at h15)
    refine aZ (aN rfl (aZ (bZ rfl func21 (dW oN) ?_)))
    rintro _ UK ⟨u22, rfl, BQ⟩
    refine aZ (aX (eU 0 underlying53 rfl rfl (dK underlying22 rfl) rfl rfl) (aZ (aN rfl (aZ (bZ rfl func22 (iE _ _ _ _ _ ((BQ).aT) (hv _ (BQ.right.right.right.right))) ?_)))))
    rintro _ Qg ⟨rfl, ZQ⟩
    have ZR := BQ.kV ZQ
    refine fG rfl rfl (aV rfl (aA (aj (aJ (aI (.inl rfl) results8 rfl ?_)))))
    exact ⟨congrArg Value.bool (by first | (exfalso; omega) | exact beq_iff_eq.2 (hlast (by omega)).2), ZR.base⟩
theorem zM {w : World} {lv : Value} {line : List Int} {many : Int} (hT : tZ w) (g : kD w .i32 lv line) (hl : line.length ≤ 1024) (hm : 0 ≤ many ∧ many < 256) :
  fO prog 8 #[lv, .int .u8 many, .bool true] w fun v w' => v = .bool true ∧ Below w.heap.size w w' := by
 obtain ⟨F, H⟩ : ∃ F, aB w w F := ⟨_, aB.start w⟩
 have hv : gW w F .i32 lv line := gW.yw g F
 have hr : 0 ≤ many % 9 ∧ many % 9 < 9 := by omega
 refine gB func8 ntmps8 ?_
 dsimp only [bf, Nat.reduceAdd]
 refine ay (ah (aV rfl (aA (aj (ay (ah (aN rfl (aX (fF (zl := [.slice none 0 0, .slice none 0 0, .int .i64 0]) (pl := [(0, 1), (1, 1), (2, 1)]) [_, _, _] underlying49 zeroValue49 rfl (fun w => by kernel_rfl) rfl (.zero (zs := [.slice none 0 0]) rfl (.one (Rd.one (hv _ (H))) (.zero (zs := [.int .i64 0]) rfl .nil))) rfl) (bZ rfl func20 (uI (l := []) (ln := line) (pt := 0) H (fun W _ => GR W 2) (fun W HW => hv _ (HW)) (by decide) (by rfl) hl) ?_)))))))))
 rintro _ w1 ⟨e1, rfl, H1⟩
 refine aV rfl (aA (aj (ay (ay (ah (bZ rfl func10 (uK H1 hT) ?_))))))
 rintro _ w2 ⟨rfl, H2⟩
 refine aX (kF rfl) (fK rfl (fun h => by exfalso; (try simp only [aH] at h); simp at h) (fun h1 => ?_))
 (try simp only [aH] at h1)
 refine aZ (aN rfl (aZ (aX (fA underlying26 rfl rfl) (aZ (aN rfl (aZ (aX (jr (hv _ (H2.right)) underlying22 rfl) (aZ (aX (dn rfl rfl) (aZ (aX (xC underlying4 rfl rfl) (eG rfl rfl (aA (aj (aO rfl (fun h => by exfalso; (try simp only [aH] at h); simp at h; omega) (fun h2 => ?_))))))))))))))))
 (try simp only [aH] at h2)
 refine aP (aj (ay (ay (ah (aN rfl (aX (fA underlying26 rfl rfl) (aA (aj (aO rfl (fun h => by exfalso; (try simp only [aH] at h); simp at h) (fun h3 => ?_))))))))))
 (try simp only [aH] at h3)
 refine aP (aj (ay (ah (aV rfl (aA (aj (ay (ay (ah (aN rfl (aA (aj (uX (ay (ah (aV rfl (aA (aj (ah (aN rfl (jh (gZ (k := .i32) (l := [101]) H2 underlying22 sizeOf21 zeroValue21 rfl rfl rfl (by decide)) ?_)))))))))))))))))))))
 rintro l3 w3 H3
 refine bZ rfl func11 (iR (s := ru [] line 0) (keys := [101]) (name := DR) H3.f2 (NK _ _ _) (fun W HW => (HW).aT) yX En NM) ?_
 rintro _ w4 ⟨rfl, H4⟩
 refine aA (aj (ay (ah (aV rfl (aA (aj (ay (ay (ah (aN rfl ?_))))))))))
 refine aX (zO rfl rfl (by omega) (by  omega)) ?_
 refine aN rfl (aA (aj (bC ?_)))
 refine iw [(0, _), (1, _), (7, _), (8, _), (30, _)] (fun (k : Nat) => [(31, .int .u8 (k : Int)), (9, .int .i64 (k : Int))]) (fun (k : Nat) W => (k : Int) ≤ many % 9 ∧ ∃ s, KW true line k s ∧ aB w W (dw e1 s • F)) (fun (k : Nat) => (many % 9).toNat - k) (0) (Sub.cons rfl (Sub.cons rfl (Sub.cons rfl (Sub.cons rfl (Sub.cons rfl (Sub.nil _)))))) (Sub.cons rfl (Sub.cons rfl (Sub.nil _))) ⟨by omega, _, (RN hl).2, H4.f2.right⟩ ?_
 rintro k w5 ⟨hk, s, hs, HL⟩
 dsimp only [List.cons_append, List.nil_append]
 refine ay (ah (aX (eu rfl rfl) (aA (aj (ay (aO rfl (fun h4 => ?_) (fun h4 => ?_)))))))
 ·(try simp only [aH] at h4)
  have hkl := h4
  refine aP (aj (ay (bC (ay (ah (aN rfl (aN rfl (jh (gZ (k := .i32) (l := [100]) HL underlying22 sizeOf21 zeroValue21 rfl rfl rfl (by decide)) ?_))))))))
  rintro l6 w6 H6
  refine bZ rfl func11 (iR (s := s) (keys := [100]) (name := rQ) H6.f2 hs.dP (fun W HW => (HW).aT) rC xX (DU hT)) ?_
  rintro _ w7 ⟨rfl, H7⟩
  have hst := hs.back hl
  have hin2 := yY s
  refine aX (dO rfl rfl) (aA (aj (aO rfl (fun h5 => ?_) (fun h5 => ?_))))
  ·(try simp only [aH] at h5)
   have hok : s.lF = 0 := h5
   have hs1 := (hst.resolve_right (fun c => c.1 hok)).2
   refine ah (aN rfl (aX (gy rfl rfl (by omega)) (aV rfl (aA (aQ (aj (ah (aX (Qa rfl rfl (by omega)) (aN rfl (aA ?_))))))))))
   refine fE (k + 1) ?_ ?_ ?_ ?_
   ·exact (Sub.cons rfl (Sub.cons rfl (Sub.nil _)))
   ·exact (Sub.cons rfl (Sub.cons rfl (Sub.cons rfl (Sub.cons rfl (Sub.cons rfl (Sub.nil _))))))
   ·(try dsimp only)
    first | done | exact ⟨by omega, _, hs1, H7.f2.right⟩
   ·(try dsimp only); omega
  ·(try simp only [aH] at h5)
   have hbr : s.lF ≠ 0 := h5
   have hL0 : s.lG.c.L = [] := (hst.resolve_left (fun c => hbr c.1)).2
   have hL9 : ((((s.aU.I9 (-s.aU.count)).gq (s.aU.Kw (-s.aU.count))).c.L.length : Nat) : Int) = 0 := by
    have h9 := congrArg List.length hL0
    exact Int.natCast_eq_zero.2 h9
   refine eX ?_
   refine oz (by decide) ?_
   refine aY (aY (bU (aj (ay (ay (ah (aN rfl (aX (dO rfl rfl) (fK rfl (fun h6 => ?_) (fun h6 => ?_))))))))))
   ·(try simp only [aH] at h6)
    refine bD (bD (bD (bD (bD (bD (jq (jq (jq (jq (jq (bD (fG rfl rfl (aA (aj (uX (ay (ah (aV rfl (aA (aj (aJ (aK (aI (.inl rfl) results8 rfl ?_)))))))))))))))))))))))
    exact ⟨rfl, H7.base⟩
   ·(try simp only [aH] at h6)
    refine aZ (aN rfl (aZ (bZ rfl func21 (dW H7) ?_)))
    rintro _ w8 ⟨u8, rfl, H8⟩
    refine aZ (aX (eU 0 underlying53 rfl rfl (dK underlying22 rfl) rfl rfl) (aZ (aX (jr ((H8).aT) underlying22 rfl) (aZ (aX (dO rfl rfl) (aZ (fK rfl (fun h7 => ?_) (fun h7 => ?_))))))))
    ·(try simp only [aH] at h7)
     refine aZ (aN rfl (aZ (aN rfl (aZ ?_))))
     refine aX (zO rfl rfl (by omega) (by  omega)) ?_
     refine aZ ?_
     refine aX (tV rfl (by rw [underlying5]; rfl) underlying3 (A8 (by omega))) ?_
     refine aZ (aX (eu rfl rfl) (aZ (fG rfl rfl (eG rfl rfl (aA (aj (aO rfl (fun h8 => ?_) (fun h8 => ?_))))))))
     ·(try simp only [aH] at h8)
      refine ay (ah (aV rfl (aA (aj (aJ (aK (aI (.inl rfl) results8 rfl ?_)))))))
      exact ⟨rfl, H8.base⟩
     ·(try simp only [aH] at h8)
      refine aP (aj (ay (ah (aN rfl (jh (gZ (k := .i32) (l := [121]) H8 underlying22 sizeOf21 zeroValue21 rfl rfl rfl (by decide)) ?_)))))
      rintro l9 w9 H9
      refine bZ rfl func11 (iR (keys := [121]) (name := wz) H9.f3 hin2 (fun W HW => (HW).aT) jW jO uJ) ?_
      rintro _ w10 ⟨rfl, nO⟩
      refine aX (dO rfl rfl) (fK rfl (fun h9 => ?_) (fun h => by exfalso; (try simp only [aH] at h); exact h (by first | (exfalso; omega) | exact (hlast (by omega)).1)))
      (try simp only [aH] at h9)
      refine aZ (aN rfl (aZ (bZ rfl func21 (dW nO) ?_)))
      rintro _ Hz ⟨u11, rfl, vk⟩
      refine aZ (aX (eU 0 underlying53 rfl rfl (dK underlying22 rfl) rfl rfl) (aZ (aN rfl (aZ (bZ rfl func22 (iE _ _ _ _ _ ((vk).aT) (hv _ (vk.right.right.right.right.right))) ?_)))))
      rintro _ w12 ⟨rfl, ZT⟩
      have ZU := vk.kV ZT
      refine fG rfl rfl (aV rfl (aA (aj (aJ (aI (.inl rfl) results8 rfl ?_)))))
      exact ⟨congrArg Value.bool (by first | (exfalso; omega) | exact beq_iff_eq.2 (hlast (by omega)).2), ZU.base⟩
    ·(try simp only [aH] at h7)
     refine bD (bD (bD (bD (bD (aZ (eG rfl rfl (eG rfl rfl (aA (aj (nN (aP (aj (ay (ah (aN rfl (jh (gZ (k := .i32) (l := [121]) H8 underlying22 sizeOf21 zeroValue21 rfl rfl rfl (by decide)) ?_))))))))))))))))
     rintro l13 MN uO
     refine bZ rfl func11 (iR (keys := [121]) (name := wz) uO.f3 hin2 (fun W HW => (HW).aT) jW jO uJ) ?_
     rintro _ Jw ⟨rfl, xE⟩
     refine aX (dO rfl rfl) (fK rfl (fun h10 => ?_) (fun h => by exfalso; (try simp only [aH] at h); exact h (by first | (exfalso; omega) | exact (hlast (by omega)).1)))
     (try simp only [aH] at h10)
     refine aZ (aN rfl (aZ (bZ rfl func21 (dW xE) ?_)))
     rintro _ MO ⟨u15, rfl, uf⟩
     refine aZ (aX (eU 0 underlying53 rfl rfl (dK underlying22 rfl) rfl rfl) (aZ (aN rfl (aZ (bZ rfl func22 (iE _ _ _ _ _ ((uf).aT) (hv _ (uf.right.right.right.right.right))) ?_)))))
     rintro _ w16 ⟨rfl, ZV⟩
     have ZW := uf.kV ZV
     refine fG rfl rfl (aV rfl (aA (aj (aJ (aI (.inl rfl) results8 rfl ?_)))))
     exact ⟨congrArg Value.bool (by first | (exfalso; omega) | exact beq_iff_eq.2 (hlast (by omega)).2), ZW.base⟩
 ·(try simp only [aH] at h4)
  have hin2 := hs.dP
  have hlast : ∀ _ : 0 < k, s.DV = 0 ∧ s.zK.c.L = line := fun h9 => hs.SY hl h9
  refine eX (aY (aY (bU (aj (ay (ay (ah (aN rfl (aX (dO rfl rfl) (fK rfl (fun h11 => ?_) (fun h11 => ?_)))))))))))
  ·(try simp only [aH] at h11)
   refine bD (bD (bD (bD (bD (bD (jq (jq (jq (jq (jq (bD (fG rfl rfl (aA (aj (uX (ay (ah (aV rfl (aA (aj (aJ (aK (aI (.inl rfl) results8 rfl ?_)))))))))))))))))))))))
   exact ⟨rfl, HL.base⟩
  ·(try simp only [aH] at h11)
   refine aZ (aN rfl (aZ (bZ rfl func21 (dW HL) ?_)))
   rintro _ RX ⟨u17, rfl, Ac⟩
   refine aZ (aX (eU 0 underlying53 rfl rfl (dK underlying22 rfl) rfl rfl) (aZ (aX (jr ((Ac).aT) underlying22 rfl) (aZ (aX (dO rfl rfl) (aZ (fK rfl (fun h12 => ?_) (fun h12 => ?_))))))))
   ·(try simp only [aH] at h12)
    refine aZ (aN rfl (aZ (aN rfl (aZ ?_))))
    refine aX (zO rfl rfl (by omega) (by  omega)) ?_
    refine aZ ?_
    refine aX (tV rfl (by rw [underlying5]; rfl) underlying3 (A8 (by omega))) ?_
    refine aZ (aX (eu rfl rfl) (aZ (fG rfl rfl (eG rfl rfl (aA (aj (aO rfl (fun h13 => ?_) (fun h13 => ?_))))))))
    ·(try simp only [aH] at h13)
     refine ay (ah (aV rfl (aA (aj (aJ (aK (aI (.inl rfl) results8 rfl ?_)))))))
     exact ⟨rfl, Ac.base⟩
    ·(try simp only [aH] at h13)
     refine aP (aj (ay (ah (aN rfl (jh (gZ (k := .i32) (l := [121]) Ac underlying22 sizeOf21 zeroValue21 rfl rfl rfl (by decide)) ?_)))))
     rintro l18 Qc zY
     refine bZ rfl func11 (iR (keys := [121]) (name := wz) zY.f3 hin2 (fun W HW => (HW).aT) jW jO uJ) ?_
     rintro _ Qe ⟨rfl, Au⟩
     refine aX (dO rfl rfl) (fK rfl (fun h14 => ?_) (fun h => by exfalso; (try simp only [aH] at h); exact h (by first | (exfalso; omega) | exact (hlast (by omega)).1)))
     (try simp only [aH] at h14)
     refine aZ (aN rfl (aZ (bZ rfl func21 (dW Au) ?_)))
     rintro _ Qd ⟨u20, rfl, uZ⟩
     refine aZ (aX (eU 0 underlying53 rfl rfl (dK underlying22 rfl) rfl rfl) (aZ (aN rfl (aZ (bZ rfl func22 (iE _ _ _ _ _ ((uZ).aT) (hv _ (uZ.right.right.right.right))) ?_)))))
     rintro _ QC ⟨rfl, ZX⟩
     have ZY := uZ.kV ZX
     refine fG rfl rfl (aV rfl (aA (aj (aJ (aI (.inl rfl) results8 rfl ?_)))))
     exact ⟨congrArg Value.bool (by first | (exfalso; omega) | exact beq_iff_eq.2 (hlast (by omega)).2), ZY.base⟩
   ·(try simp only [aH] at h12)
    refine bD (bD (bD (bD (bD (aZ (eG rfl rfl (eG rfl rfl (aA (aj (nN (aP (aj (ay (ah (aN rfl (jh (gZ (k := .i32) (l := [121]) Ac underlying22 sizeOf21 zeroValue21 rfl rfl rfl (by decide)) ?_))))))))))))))))
    rintro l22 UK BQ
    refine bZ rfl func11 (iR (keys := [121]) (name := wz) BQ.f3 hin2 (fun W HW => (HW).aT) jW jO uJ) ?_
    rintro _ Qg ⟨rfl, yc⟩
    refine aX (dO rfl rfl) (fK rfl (fun h15 => ?_) (fun h => by exfalso; (try simp only [aH] at h); exact h (by first | (exfalso; omega) | exact (hlast (by omega)).1)))
    (try simp only [aH] at h15)
    refine aZ (aN rfl (aZ (bZ rfl func21 (dW yc) ?_)))
    rintro _ Vf ⟨u24, rfl, Ho⟩
    refine aZ (aX (eU 0 underlying53 rfl rfl (dK underlying22 rfl) rfl rfl) (aZ (aN rfl (aZ (bZ rfl func22 (iE _ _ _ _ _ ((Ho).aT) (hv _ (Ho.right.right.right.right))) ?_)))))
    rintro _ Vu ⟨rfl, Z4⟩
    have Z5 := Ho.kV Z4
    refine fG rfl rfl (aV rfl (aA (aj (aJ (aI (.inl rfl) results8 rfl ?_)))))
    exact ⟨congrArg Value.bool (by first | (exfalso; omega) | exact beq_iff_eq.2 (hlast (by omega)).2), Z5.base⟩
theorem zN {w : World} {lv : Value} {line : List Int} {many : Int} {back : Bool} (hT : tZ w) (g : kD w .i32 lv line) (hl : 1024 < line.length) :
  fO prog 8 #[lv, .int .u8 many, .bool back] w fun v w' => v = .bool true ∧ Below w.heap.size w w' := by
 obtain ⟨F, H⟩ : ∃ F, aB w w F := ⟨_, aB.start w⟩
 have hv : gW w F .i32 lv line := gW.yw g F
 refine gB func8 ntmps8 ?_
 dsimp only [bf, Nat.reduceAdd]
 refine ay (ah (aV rfl (aA (aj (ay (ah (aN rfl (aX (fF (zl := [.slice none 0 0, .slice none 0 0, .int .i64 0]) (pl := [(0, 1), (1, 1), (2, 1)]) [_, _, _] underlying49 zeroValue49 rfl (fun w => by kernel_rfl) rfl (.zero (zs := [.slice none 0 0]) rfl (.one (Rd.one (hv _ (H))) (.zero (zs := [.int .i64 0]) rfl .nil))) rfl) (bZ rfl func20 (GN (l := []) (ln := line) (pt := 0) H (fun W _ => GR W 2) hv (by decide) (by rfl) hl) ?_)))))))))
 rintro _ w1 ⟨rfl, H1⟩
 refine aV rfl (aA (aj (ay (ay (ah (bZ rfl func10 (uK H1 hT) ?_))))))
 rintro _ w2 ⟨rfl, H2⟩
 refine aX (kF rfl) (fK rfl (fun h => by exfalso; (try simp only [aH] at h); simp at h) (fun h1 => ?_))
 (try simp only [aH] at h1)
 refine aZ (aN rfl (aZ (aX (fA underlying26 rfl rfl) (aZ (aN rfl (aZ (aX (jr (hv _ (H2)) underlying22 rfl) (aZ (aX (dn rfl rfl) (aZ (aX (xC underlying4 rfl rfl) (eG rfl rfl (aA (aj (aO rfl (fun h => by exfalso; (try simp only [aH] at h); simp at h; omega) (fun h2 => ?_))))))))))))))))
 (try simp only [aH] at h2)
 refine aP (aj (ay (ay (ah (aN rfl (aX (fA underlying26 rfl rfl) (aA (aj (aO rfl (fun h3 => ?_) (fun h => by exfalso; (try simp only [aH] at h); simp at h))))))))))
 (try simp only [aH] at h3)
 refine ay (ah (aV rfl (aA (aj (aJ (aK (aI (.inl rfl) results8 rfl ?_)))))))
 exact ⟨rfl, H2.base⟩
theorem Jj {w : World} {lv : Value} {line : List Int} {many : Int} {back : Bool} (hT : tZ w) (g : kD w .i32 lv line) (hm : 0 ≤ many ∧ many < 256) :
    fO prog 8 #[lv, .int .u8 many, .bool back] w fun v w' => v = .bool true ∧ Below w.heap.size w w' := by
  by_cases hl : line.length ≤ 1024
  · cases back
    · exact AU hT g hl hm
    · exact zM hT g hl hm
  · exact zN hT g (by omega)
end Go.Proofs.YtgndbccogcofjaaGreatDoor
end
section
set_option maxRecDepth 100000
namespace Go.Proofs.YtgndbccogcofjaaGreatDoor
open Go.ChangeShapes Go.WideShapes Go.ChangeAt Go.RowKit
set_option maxRecDepth 100000 in
theorem wC (os : Os) (started : os.Started) (H : Type) (enc : TypeId × Value → H) :
    ReturnsInHanded {} Tryz.checked os 8 .any (fun w args => (Rows.emacsYanksAllSpec.pre enc Tryz.prog Tryz.f8 Rows.emacsYanksAllRow.domain false w args ∧ laidMetH Tryz.prog EF w) ∧ sizedMet enc Tryz.prog Tryz.f8 (OpenSpec.ofChange Rows.emacsYanksAllSpec) false w args) (Rows.emacsYanksAllSpec.post enc Tryz.prog Tryz.f8 false true false false) := by
  refine D5 (C := Tryz.checked) (tb := 4) _ own laid started (by kernel_rfl) Tryz.func8 (congrArg Array.toList Tryz.params8) rfl Tryz.underlying4 rfl (by kernel_rfl) (fun ds hd => ?_)
    (ChangeSpec.witness_shaped (enc := enc) (C := Tryz.checked) (os := os) (X := fun w _ => laidMetH Tryz.prog EF w) false (World.laidAll Tryz.prog os EF) #[.slice none 0 0, .int .u8 0, .bool false] 8 (World.laidAll_os _ _ _) (World.shaped_of_ZipB (by kernel_rfl) (by kernel_rfl)) (by kernel_rfl) (by kernel_rfl) (by kernel_rfl) (Oj os _)) ?_
  · obtain ⟨a0, a1, a2, rfl⟩ := MH hd
    rfl
  intro W args hL hin
  have hT := QA hL
  obtain ⟨v1, v2, v3, rfl, ⟨⟨_, o1⟩, i1⟩, ⟨⟨_, o2⟩, i2⟩, ⟨⟨_, o3⟩, i3⟩⟩ := hin.three
  obtain ⟨a1, n1, c1, rfl⟩ := okWide_slice Tryz.underlying22 o1
  obtain ⟨x, rfl⟩ := okWide_int Tryz.underlying5 o2
  obtain ⟨bk, rfl⟩ := okWide_bool Tryz.underlying4 o3
  obtain ⟨v, l, e1, g1, bl, -⟩ := i1.ints Tryz.underlying22 Tryz.underlying21 (by kernel_rfl)
  obtain rfl := List.singleton_inj.1 e1
  obtain ⟨y, e2, wy⟩ := i2.int Tryz.underlying5
  obtain rfl : x = y := by
    have e3 : [Value.int IntKind.u8 x] = [Value.int IntKind.u8 y] := e2
    simpa using e3
  simp [Lit.wf, IntKind.min, IntKind.max, IntKind.signed, IntKind.bits] at wy
  exact Jj hT.1 g1 (by omega)
theorem wE : Rows.EmacsYanksAllSaid :=
  OpenClaim.holds_of_wide 8 Tryz.f8 rfl rfl rfl rfl rfl rfl rfl ⟨rfl, rfl, rfl, rfl, rfl⟩ rfl rfl rfl rfl rfl (by kernel_rfl) Tryz.func8 (by kernel_rfl)
    (of_decide_eq_true (by kernel_rfl)) (by unfold Func.isWrapper; first | (rw [if_pos (by decide +kernel)]; kernel_rfl) | (rw [if_neg (by decide +kernel)]; exact ⟨rfl, rfl⟩))
    (fun os started H enc _ => wC os started H enc)
theorem emacsYanksAll_card : Rows.EmacsYanksAllCardSaid :=
  Claim7.holds_tied_plain_at .later [] [.data, .widerDeep, .widerDeep, .pinned] true (true, "3a649fd05a10beb239464f5874ead30cfcefe355d9a30c23777230efe21a8554") false
    wE (fun _ h => by cases h) (by kernel_rfl) (fun _ h => by cases h) emacsYanksAll_row_tie rfl ⟨rfl, rfl⟩ (by kernel_rfl) rfl
    (fun f fn hf hfn => by
      obtain rfl : f = 8 := Option.some.inj ((show Tryz.prog.funcNamed "lanyard/lanyardlaw18.EmacsYanksAll" = some 8 by kernel_rfl).symm.trans hf) |>.symm
      obtain rfl : fn = Tryz.f8 := (Option.some.inj (Tryz.func8.symm.trans hfn)).symm
      exact ⟨by kernel_rfl, fun j t ht => by
        rw [Tryz.params8] at ht
        have hm : t ∈ [22, 5, 4] := by simpa using Array.mem_of_getElem? ht
        have hall : ([22, 5, 4].all fun u => !Tryz.prog.wantsStandIn u) = true := by kernel_rfl
        exact (show Tryz.prog.wantsStandIn t = false by simpa using List.all_eq_true.1 hall t hm)⟩)
    (by kernel_rfl)
end Go.Proofs.YtgndbccogcofjaaGreatDoor
end
